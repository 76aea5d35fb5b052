import PyProof.Rows.All
import Wide.All
import OpenK.AllK
import Wide.FinOn
import PyProof.EqAt
import PyProof.EqKinds
import PyProof.TupleCall
import HandS.ForMost
import HandS.Exc
import HandS.ExcOwn
import HandS.WordsExc
import HandS.TupAny
import HandS.TupMul
import HandS.Wide
import HandS.Deep
import HandS.Walk
import HandS.Zip
import HandS.IsInst
import HandS.More
import HandS.WordsDict
import HandS.SortInts
import HandS.Small
import HandS.Style
import KE.KExcSuper
import HandS.ExcIs
import HandS.TryMany
import HandS.ExcField
import HandS.OwnEq
import HandS.Property
import HandS.CallSlots
import PyProof.FString2
import HandS.FStr
import HandS.Text
import HandS.StrMore
import PyProof.InstNe
import PyProof.StrOps2
import PyProof.StrLaws
import PyProof.StrLawsChain
import PyProof.StrLawsTight
import PyProof.Rows.StrCut
import PyProof.Rows.StrItems
import HandS.EndBits
import PySem.Challenge.RW_postchase_k12_texts_there_and_back
/-! text DLa -/
set_option Elab.async false
set_option linter.all false
set_option maxRecDepth 100000
set_option maxHeartbeats 4000000
/-! The data layer: readings over plain data, no heap in sight. -/
namespace DL
open PySem PySem.Spec PyProof.Rows L2
abbrev St := L2.St

/-- plain data -/
inductive D where
  | non | bl (b : Bool) | int (i : Int) | str (s : Str) | ty (n : String) | cls (C : Addr)
  | lst (l : List D) | tup (l : List D)
  | dic (kvs : List (Key × D))
  | ins (C : Addr) (fs : List (Str × D))
  | scr (ns : List Int)

mutual
/-- v stands for the datum, all its parts in the still part F of the heap -/
inductive At (K : PySem.W.Frag) (F : Hp) : V → D → Prop
  | non : At K F .non .non
  | bl (b : Bool) : At K F (.bl b) (.bl b)
  | int (i : Int) : At K F (.int i) (.int i)
  | str (s : Str) : At K F (.str s) (.str s)
  | ty (n : String) : At K F (.ty n) (.ty n)
  | cls (C : Addr) : At K F (.ref C) (.cls C)
  | lst {a : Addr} {vs : List V} {ds : List D} : F a = some (.lst vs) → AtL K F vs ds → At K F (.ref a) (.lst ds)
  | tup {a : Addr} {vs : List V} {ds : List D} : SqT K F a vs → AtL K F vs ds → At K F (.ref a) (.tup ds)
  | dic {a : Addr} {kvs : List (Key × V)} {ds : List (Key × D)} : F a = some (.dK kvs) → kvs.map (·.1) = ds.map (·.1) → AtL K F (kvs.map (·.2)) (ds.map (·.2)) → At K F (.ref a) (.dic ds)
  | ins {a C dx : Addr} {fs : List (Str × V)} {gs : List (Str × D)} : F a = some (.ins C dx fs) → F dx = some (.own a) → fs.map (·.1) = gs.map (·.1) → AtL K F (fs.map (·.2)) (gs.map (·.2)) → At K F (.ref a) (.ins C gs)
  | scr {a : Addr} {ns : List Int} : SqL K F a (ns.map V.int) → At K F (.ref a) (.scr ns)
inductive AtL (K : PySem.W.Frag) (F : Hp) : List V → List D → Prop
  | nil : AtL K F [] []
  | cons {v : V} {vs : List V} {d : D} {ds : List D} : At K F v d → AtL K F vs ds → AtL K F (v :: vs) (d :: ds)
end

section
variable {K : PySem.W.Frag} {F F' : Hp}
theorem sqt_same {a : Addr} {xs : List V} (e : Same F F') (h : SqT K F a xs) : SqT K F' a xs := by
  rcases h with (h | ⟨o, h⟩) | h
  · exact .inl (.inl (e _ _ h))
  · exact .inl (.inr ⟨o, e _ _ h⟩)
  · exact .inr h
theorem sql_same {a : Addr} {xs : List V} (e : Same F F') (h : SqL K F a xs) : SqL K F' a xs := by
  rcases h with (h | ⟨o, h⟩) | h
  · exact .inl (.inl (e _ _ h))
  · exact .inl (.inr ⟨o, e _ _ h⟩)
  · exact .inr h
mutual
theorem At.mono (e : Same F F') : ∀ {v : V} {d : D}, At K F v d → At K F' v d
  | _, _, .non => .non
  | _, _, .bl b => .bl b
  | _, _, .int i => .int i
  | _, _, .str s => .str s
  | _, _, .ty n => .ty n
  | _, _, .cls C => .cls C
  | _, _, .lst h r => .lst (e _ _ h) (AtL.mono e r)
  | _, _, .tup h r => .tup (sqt_same e h) (AtL.mono e r)
  | _, _, .dic h k r => .dic (e _ _ h) k (AtL.mono e r)
  | _, _, .ins h k n r => .ins (e _ _ h) (e _ _ k) n (AtL.mono e r)
  | _, _, .scr h => .scr (sql_same e h)
theorem AtL.mono (e : Same F F') : ∀ {vs : List V} {ds : List D}, AtL K F vs ds → AtL K F' vs ds
  | _, _, .nil => .nil
  | _, _, .cons h r => .cons (At.mono e h) (AtL.mono e r)
end
theorem AtL.length : ∀ {vs : List V} {ds : List D}, AtL K F vs ds → vs.length = ds.length
  | _, _, .nil => rfl
  | _, _, .cons _ r => by simp [AtL.length r]
theorem AtL.get : ∀ {vs : List V} {ds : List D} {i : Nat} {d : D}, AtL K F vs ds → ds[i]? = some d → ∃ v, vs[i]? = some v ∧ At K F v d
  | _, _, _, _, .nil, h => by simp at h
  | _, _, 0, _, .cons a r, h => by simp at h; subst h; exact ⟨_, rfl, a⟩
  | _, _, i + 1, d, .cons a r, h => by
    obtain ⟨v, e, q⟩ := AtL.get (i := i) (d := d) r (by simpa using h)
    exact ⟨v, by simpa using e, q⟩
theorem AtL.getV : ∀ {vs : List V} {ds : List D} {i : Nat} {v : V}, AtL K F vs ds → vs[i]? = some v → ∃ d, ds[i]? = some d ∧ At K F v d
  | _, _, _, _, .nil, h => by simp at h
  | _, _, 0, _, .cons a r, h => by simp at h; subst h; exact ⟨_, rfl, a⟩
  | _, _, i + 1, d, .cons a r, h => by
    obtain ⟨v, e, q⟩ := AtL.getV (i := i) (v := d) r (by simpa using h)
    exact ⟨v, by simpa using e, q⟩
theorem AtL.append : ∀ {vs ws : List V} {ds es : List D}, AtL K F vs ds → AtL K F ws es → AtL K F (vs ++ ws) (ds ++ es)
  | _, _, _, _, .nil, s => s
  | _, _, _, _, .cons a r, s => .cons a (AtL.append r s)
theorem AtL.set {v : V} {d : D} (h : At K F v d) : ∀ {vs : List V} {ds : List D} (i : Nat), AtL K F vs ds → AtL K F (vs.set i v) (ds.set i d)
  | _, _, _, .nil => .nil
  | _, _, 0, .cons _ r => .cons h r
  | _, _, i + 1, .cons a r => .cons a (AtL.set h i r)
theorem AtL.take : ∀ {vs : List V} {ds : List D} (n : Nat), AtL K F vs ds → AtL K F (vs.take n) (ds.take n)
  | _, _, 0, _ => .nil
  | _, _, _ + 1, .nil => .nil
  | _, _, n + 1, .cons a r => .cons a (AtL.take n r)
theorem AtL.drop : ∀ {vs : List V} {ds : List D} (n : Nat), AtL K F vs ds → AtL K F (vs.drop n) (ds.drop n)
  | _, _, 0, r => r
  | _, _, _ + 1, .nil => .nil
  | _, _, n + 1, .cons _ r => AtL.drop n r
theorem AtL.rev : ∀ {vs : List V} {ds : List D}, AtL K F vs ds → AtL K F vs.reverse ds.reverse
  | _, _, .nil => .nil
  | _, _, .cons a r => by
    rw [List.reverse_cons, List.reverse_cons]
    exact (AtL.rev r).append (.cons a .nil)
theorem AtL.ints : ∀ {vs : List V} {ns : List Int}, AtL K F vs (ns.map D.int) → vs = ns.map V.int
  | _, [], .nil => rfl
  | _, n :: r, .cons (.int _) q => by rw [List.map_cons, AtL.ints q]
theorem AtL.of_ints : ∀ (ns : List Int), AtL K F (ns.map V.int) (ns.map D.int)
  | [] => .nil
  | n :: r => .cons (.int n) (AtL.of_ints r)
theorem AtL.strs : ∀ {vs : List V} {ns : List Str}, AtL K F vs (ns.map D.str) → vs = ns.map V.str
  | _, [], .nil => rfl
  | _, n :: r, .cons (.str _) q => by rw [List.map_cons, AtL.strs q]
theorem AtL.of_strs : ∀ (ns : List Str), AtL K F (ns.map V.str) (ns.map D.str)
  | [] => .nil
  | n :: r => .cons (.str n) (AtL.of_strs r)
theorem AtL.bools : ∀ {vs : List V} {ns : List Bool}, AtL K F vs (ns.map D.bl) → vs = ns.map V.bl
  | _, [], .nil => rfl
  | _, n :: r, .cons (.bl _) q => by rw [List.map_cons, AtL.bools q]
end

/-! ### owned things: they may change -/
/-- the row of the draws: [the script's items, a place, a great number, a small one] -/
def RowAt (K : PySem.W.Frag) (F H : Hp) (a : Addr) : Prop :=
  ∃ (l : Addr) (ns : List Int) (i r2 r3 : Int), H a = some (.lst [.ref l, .int i, .int r2, .int r3]) ∧ F l = some (.lst (ns.map V.int)) ∧ (∀ n ∈ ns, n.natAbs < 2 ^ 1048577) ∧ 0 ≤ i ∧ 0 ≤ r2 ∧ r2.natAbs < 2 ^ 1048577 ∧ 0 ≤ r3 ∧ r3 < 2147483647
/-- an attribute's value: a datum, or a list that belongs to the object alone -/
inductive Fv where
  | d (x : D) | l (p : Addr) (xs : List D)
def Fv.toD : Fv → D
  | .d x => x
  | .l _ xs => .lst xs
inductive FvAt (K : PySem.W.Frag) (F H : Hp) : List Addr → List V → List Fv → Prop
  | nil : FvAt K F H [] [] []
  | d {ls : List Addr} {v : V} {vs : List V} {x : D} {fs : List Fv} : At K F v x → FvAt K F H ls vs fs → FvAt K F H ls (v :: vs) (.d x :: fs)
  | l {ls : List Addr} {p : Addr} {us vs : List V} {xs : List D} {fs : List Fv} : H p = some (.lst us) → AtL K F us xs → p ∉ ls → FvAt K F H ls vs fs → FvAt K F H (p :: ls) (.ref p :: vs) (.l p xs :: fs)
inductive OD where
  | lst (l : List D) | dic (kvs : List (Key × D)) | row | ins (C : Addr) (fs : List (Str × Fv)) | insA (a : Addr) (C : Addr) (fs : List (Str × Fv))
def OD.toD : OD → D
  | .lst l => .lst l
  | .dic k => .dic k
  | .row => .non
  | .ins C fs => .ins C (fs.map fun p => (p.1, p.2.toD))
  | .insA _ C fs => .ins C (fs.map fun p => (p.1, p.2.toD))
def OD.still : OD → Bool
  | .row => false
  | .insA _ _ _ => false
  | _ => true
/-- it stands at one place -/
def OD.one : OD → Bool
  | .ins _ _ => false
  | .insA _ _ _ => false
  | _ => true
def OwnAt (K : PySem.W.Frag) (F H : Hp) (fp : List Addr) (a : Addr) : OD → Prop
  | .lst l => fp = [a] ∧ ∃ vs, H a = some (.lst vs) ∧ AtL K F vs l
  | .dic ks => fp = [a] ∧ ∃ kvs, H a = some (.dK kvs) ∧ kvs.map (·.1) = ks.map (·.1) ∧ AtL K F (kvs.map (·.2)) (ks.map (·.2))
  | .row => fp = [a] ∧ RowAt K F H a
  | .ins C fs => ∃ dx ls vs, fp = a :: dx :: ls ∧ a ≠ dx ∧ a ∉ ls ∧ dx ∉ ls ∧ H a = some (.ins C dx vs) ∧ H dx = some (.own a) ∧ vs.map (·.1) = fs.map (·.1) ∧ FvAt K F H ls (vs.map (·.2)) (fs.map (·.2))
  | .insA a0 C fs => a = a0 ∧ ∃ dx ls vs, fp = a :: dx :: ls ∧ a ≠ dx ∧ a ∉ ls ∧ dx ∉ ls ∧ H a = some (.ins C dx vs) ∧ H dx = some (.own a) ∧ vs.map (·.1) = fs.map (·.1) ∧ FvAt K F H ls (vs.map (·.2)) (fs.map (·.2))
/-- F, and what H has at fp -/
def over (F H : Hp) (fp : List Addr) : Hp := fun x => if x ∈ fp then H x else F x
section
variable {K : PySem.W.Frag} {F F' H H' : Hp} {fp : List Addr} {a : Addr}
theorem FvAt.stay : ∀ {ls : List Addr} {vs : List V} {fs : List Fv}, FvAt K F H ls vs fs → Same F F' → (∀ x ∈ ls, H' x = H x) → FvAt K F' H' ls vs fs
  | _, _, _, .nil, _, _ => .nil
  | _, _, _, .d r q, s, k => .d (r.mono s) (q.stay s k)
  | _, _, _, .l h r n q, s, k => .l (by rw [k _ (by simp)]; exact h) (r.mono s) n (q.stay s fun x hx => k x (by simp [hx]))
theorem FvAt.there : ∀ {ls : List Addr} {vs : List V} {fs : List Fv}, FvAt K F H ls vs fs → ∀ x ∈ ls, H x ≠ none
  | _, _, _, .nil, x, hx => absurd hx (by simp)
  | _, _, _, .d r q, x, hx => q.there x hx
  | _, _, _, .l h r n q, x, hx => by
    rcases List.mem_cons.mp hx with e | e
    · subst e; rw [h]; simp
    · exact q.there x e
theorem same_over (h : ∀ x ∈ fp, F x = none) : Same F (over F H fp) := fun x o e => by
  unfold over
  rw [if_neg (fun w => by rw [h x w] at e; cases e)]
  exact e
theorem over_in {x : Addr} (h : x ∈ fp) : over F H fp x = H x := by
  unfold over
  rw [if_pos h]
theorem over_out {x : Addr} (h : x ∉ fp) : over F H fp x = F x := by
  unfold over
  rw [if_neg h]
theorem FvAt.still (h : ∀ x ∈ fp, F x = none) : ∀ {ls : List Addr} {vs : List V} {fs : List Fv}, FvAt K F H ls vs fs → (∀ x ∈ ls, x ∈ fp) → AtL K (over F H fp) vs (fs.map Fv.toD)
  | _, _, _, .nil, _ => .nil
  | _, _, _, .d r q, k => .cons (r.mono (same_over h)) (q.still h k)
  | _, _, _, .l e r n q, k => .cons (.lst (by rw [over_in (k _ (by simp))]; exact e) (r.mono (same_over h))) (q.still h fun x hx => k x (by simp [hx]))
theorem OwnAt.stay : ∀ {o : OD}, OwnAt K F H fp a o → Same F F' → (∀ x ∈ fp, H' x = H x) → OwnAt K F' H' fp a o
  | .lst l, ⟨e, vs, h, r⟩, s, k => by subst e; exact ⟨rfl, vs, by rw [k a (by simp)]; exact h, r.mono s⟩
  | .dic l, ⟨e, vs, h, n, r⟩, s, k => by subst e; exact ⟨rfl, vs, by rw [k a (by simp)]; exact h, n, r.mono s⟩
  | .row, ⟨e, l, ns, i, r2, r3, h, hl, r⟩, s, k => by subst e; exact ⟨rfl, l, ns, i, r2, r3, by rw [k a (by simp)]; exact h, s _ _ hl, r⟩
  | .ins C fs, ⟨dx, ls, vs, e, n1, n2, n3, h1, h2, hn, r⟩, s, k => by
    subst e
    exact ⟨dx, ls, vs, rfl, n1, n2, n3, by rw [k a (by simp)]; exact h1, by rw [k dx (by simp)]; exact h2, hn, r.stay s fun x hx => k x (by simp [hx])⟩
  | .insA a0 C fs, ⟨ea, dx, ls, vs, e, n1, n2, n3, h1, h2, hn, r⟩, s, k => by
    subst e
    exact ⟨ea, dx, ls, vs, rfl, n1, n2, n3, by rw [k a (by simp)]; exact h1, by rw [k dx (by simp)]; exact h2, hn, r.stay s fun x hx => k x (by simp [hx])⟩
theorem OwnAt.there : ∀ {o : OD}, OwnAt K F H fp a o → ∀ x ∈ fp, H x ≠ none
  | .lst l, ⟨e, vs, h, r⟩, x, hx => by subst e; simp at hx; subst hx; rw [h]; simp
  | .dic l, ⟨e, vs, h, n, r⟩, x, hx => by subst e; simp at hx; subst hx; rw [h]; simp
  | .row, ⟨e, l, ns, i, r2, r3, h, hl, r⟩, x, hx => by subst e; simp at hx; subst hx; rw [h]; simp
  | .ins C fs, ⟨dx, ls, vs, e, n1, n2, n3, h1, h2, hn, r⟩, x, hx => by
    subst e
    rcases List.mem_cons.mp hx with w | w
    · subst w; rw [h1]; simp
    · rcases List.mem_cons.mp w with w | w
      · subst w; rw [h2]; simp
      · exact r.there x w
  | .insA a0 C fs, ⟨ea, dx, ls, vs, e, n1, n2, n3, h1, h2, hn, r⟩, x, hx => by
    subst e
    rcases List.mem_cons.mp hx with w | w
    · subst w; rw [h1]; simp
    · rcases List.mem_cons.mp w with w | w
      · subst w; rw [h2]; simp
      · exact r.there x w
theorem OwnAt.self : ∀ {o : OD}, OwnAt K F H fp a o → a ∈ fp
  | .lst l, ⟨e, _⟩ => by subst e; simp
  | .dic l, ⟨e, _⟩ => by subst e; simp
  | .row, ⟨e, _⟩ => by subst e; simp
  | .ins C fs, ⟨_, _, _, e, _⟩ => by subst e; simp
  | .insA a0 C fs, ⟨_, _, _, _, e, _⟩ => by subst e; simp
theorem OwnAt.only : ∀ {o : OD}, OwnAt K F H fp a o → o.one = true → fp = [a]
  | .lst l, ⟨e, _⟩, _ => e
  | .dic l, ⟨e, _⟩, _ => e
  | .row, ⟨e, _⟩, _ => e
  | .ins C fs, _, h => Bool.noConfusion h
  | .insA a0 C fs, _, h => Bool.noConfusion h
/-- a thing that belongs to nobody else may be held still -/
theorem OwnAt.toAt (z : ∀ x ∈ fp, F x = none) : ∀ {o : OD}, OwnAt K F H fp a o → o.still = true → At K (over F H fp) (.ref a) o.toD
  | .lst l, ⟨e, vs, h, r⟩, _ => .lst (by rw [over_in (by rw [e]; simp)]; exact h) (r.mono (same_over z))
  | .dic l, ⟨e, vs, h, n, r⟩, _ => .dic (by rw [over_in (by rw [e]; simp)]; exact h) n (r.mono (same_over z))
  | .ins C fs, ⟨dx, ls, vs, e, n1, n2, n3, h1, h2, hn, r⟩, _ => by
    refine .ins (dx := dx) (fs := vs) (by rw [over_in (by rw [e]; simp)]; exact h1) (by rw [over_in (by rw [e]; simp)]; exact h2) (by rw [hn, List.map_map]; rfl) ?_
    have q := r.still z (fun x hx => by rw [e]; simp [hx])
    rw [List.map_map] at q ⊢
    exact q
  | .row, _, h => Bool.noConfusion h
  | .insA a0 C fs, _, h => Bool.noConfusion h
end

/-- a slot: nothing yet, a datum, a thing of the def's own, the k-th of the things that were handed in to be changed -/
inductive Sl where
  | no | d (x : D) | own (o : OD) | par (k : Nat) | pin (a : Addr) | xn (a dd : Addr) (y : D)
structure En where
  sl : List Sl
  pa : List OD
/-- what is fixed through a def's body: the written part; at the entry the still part F0, the heap H0; what must stay (B); what was handed in to be changed -/
structure Gx where
  K : PySem.W.Frag
  F0 : Hp
  H0 : Hp
  B0 : Hp
  pa : List (Addr × List Addr)

def SlOk (G : Gx) (B F H : Hp) (sv : Option (Option V)) (fp : List Addr) : Sl → Prop
  | .no => True
  | .d x => ∃ v, sv = some (some v) ∧ At G.K F v x
  | .own o => ∃ a, sv = some (some (.ref a)) ∧ OwnAt G.K F H fp a o ∧ ∀ x ∈ fp, F x = none ∧ G.H0 x = none ∧ B x = none
  | .par k => ∃ ap, G.pa[k]? = some ap ∧ sv = some (some (.ref ap.1))
  | .pin a => sv = some (some (.ref a))
  | .xn a dd y => sv = some (some (.ref a)) ∧ ∃ v, F dd = some (.xd [(("index" : Str), v)]) ∧ At G.K F v y
def Sl.isOwn : Sl → Bool
  | .own _ => true
  | _ => false
/-- the state and the environment of data; ex: addresses that no slot owns -/
structure Sr (G : Gx) (B : Hp) (ex : List Addr) (F H : Hp) (σ : St) (ρ : En) : Prop where
  f0 : Same G.F0 F
  gb : Same G.B0 B
  fn : ∀ a, F a ≠ none → G.F0 a ≠ none ∨ G.H0 a = none
  fh : Same F H
  bh : Same B H
  dom : ∀ a, H a = none → G.H0 a = none
  len : ρ.sl.length = σ.length
  xf : ∀ x ∈ ex, F x = none ∧ H x ≠ none
  pl : G.pa.length = ρ.pa.length
  par : ∀ (k : Nat) ap o, G.pa[k]? = some ap → ρ.pa[k]? = some o → OwnAt G.K F H ap.2 ap.1 o
  pf : ∀ ap ∈ G.pa, ∀ x ∈ ap.2, F x = none ∧ B x = none ∧ G.H0 x ≠ none
  pd : ∀ (j k : Nat) ap bp, G.pa[j]? = some ap → G.pa[k]? = some bp → j ≠ k → ∀ x ∈ ap.2, x ∉ bp.2
  sl : ∃ ad : Nat → List Addr, (∀ (i : Nat) s, ρ.sl[i]? = some s → SlOk G B F H σ[i]? (ad i) s) ∧ (∀ (i : Nat) o, ρ.sl[i]? = some (.own o) → ∀ x ∈ ad i, x ∉ ex) ∧
    ∀ (i j : Nat) o u, ρ.sl[i]? = some (.own o) → ρ.sl[j]? = some (.own u) → i ≠ j → ∀ x ∈ ad i, x ∉ ad j

section
variable {G : Gx} {B B' F F' H H' : Hp} {σ : St} {ρ : En} {ex ex' : List Addr}
theorem Sr.ffree (S : Sr G B ex F H σ ρ) {p : Addr} (h : H p = none) : F p = none := S.fh.free h
theorem Sr.bfree (S : Sr G B ex F H σ ρ) {p : Addr} (h : H p = none) : B p = none := S.bh.free h
/-- the heap has grown; what was there stands -/
theorem Sr.grow (S : Sr G B ex F H σ ρ) (f : Same F F') (n : ∀ a, F' a ≠ none → F a ≠ none ∨ H a = none) (fh : Same F' H') (hh : Same H H') : Sr G B ex F' H' σ ρ := by
  have old : ∀ a, H a ≠ none → F a = none → F' a = none := fun a h1 h2 => by
    cases e : F' a with
    | none => rfl
    | some o =>
      rcases n a (by rw [e]; simp) with q | q
      · exact absurd h2 q
      · exact absurd q h1
  have at_ : ∀ a, H a ≠ none → H' a = H a := fun a h => by
    cases e : H a with
    | none => exact absurd e h
    | some o => exact hh _ _ e
  obtain ⟨ad, h1, h2, h3⟩ := S.sl
  refine ⟨S.f0.trans f, S.gb, fun a h => ?_, fh, S.bh.trans hh, fun a h => S.dom a (hh.free h), S.len, fun x hx => ⟨old x (S.xf x hx).2 (S.xf x hx).1, by rw [at_ x (S.xf x hx).2]; exact (S.xf x hx).2⟩, S.pl, fun k ap o h1 h2 => ?_, fun ap hap x hx => ?_, S.pd, ad, fun i s hs => ?_, h2, h3⟩
  · rcases n a h with q | q
    · exact S.fn a q
    · exact .inr (S.dom a q)
  · have q := S.par k ap o h1 h2
    exact q.stay f fun x hx => at_ x (q.there x hx)
  · obtain ⟨q1, q2, q3⟩ := S.pf ap hap x hx
    obtain ⟨k, hk⟩ := List.getElem?_of_mem hap
    have hlt : k < ρ.pa.length := by rw [← S.pl]; exact (List.getElem?_eq_some_iff.mp hk).1
    have q := S.par k ap _ hk (List.getElem?_eq_getElem hlt)
    exact ⟨old x (q.there x hx) q1, q2, q3⟩
  · have q := h1 i s hs
    cases s with
    | no => trivial
    | d x =>
      obtain ⟨v, e, r⟩ := q
      exact ⟨v, e, r.mono f⟩
    | own o =>
      obtain ⟨a, e, r, z⟩ := q
      refine ⟨a, e, r.stay f fun x hx => at_ x (r.there x hx), fun x hx => ?_⟩
      obtain ⟨z1, z2, z3⟩ := z x hx
      exact ⟨old x (r.there x hx) z1, z2, z3⟩
    | par k => exact q
    | pin a => exact q
    | xn a dd y => obtain ⟨e1, v1, e2, e3⟩ := q; exact ⟨e1, v1, f _ _ e2, e3.mono f⟩
/-- a new thing that never changes -/
theorem Sr.new (S : Sr G B ex F H σ ρ) {p : Addr} {o : HO} (hp : H p = none) : Sr G B ex (upd F p o) (upd H p o) σ ρ := by
  have fp := S.ffree hp
  refine S.grow (fun b u e => ?_) (fun a h => ?_) (fun b u e => ?_) (fun b u e => ?_)
  · rw [upd_ne (ne_of_none e fp)]; exact e
  · by_cases q : a = p
    · subst q; exact .inr hp
    · rw [upd_ne q] at h; exact .inl h
  · by_cases q : b = p
    · subst q; rw [upd_same] at e ⊢; exact e
    · rw [upd_ne q] at e ⊢; exact S.fh _ _ e
  · rw [upd_ne (ne_of_none e hp)]; exact e
theorem same_new {p : Addr} {o : HO} (hp : F p = none) : Same F (upd F p o) := fun b u e => by
  rw [upd_ne (ne_of_none e hp)]; exact e
/-- a new thing beside the slots -/
theorem Sr.newX (S : Sr G B ex F H σ ρ) {p : Addr} {o : HO} (hp : H p = none) : Sr G B (p :: ex) F (upd H p o) σ ρ := by
  have S2 : Sr G B ex F (upd H p o) σ ρ := S.grow (Same.refl F) (fun a h => .inl h) (fun b u e => by rw [upd_ne (ne_of_none e (S.ffree hp))]; exact S.fh _ _ e) (fun b u e => by rw [upd_ne (ne_of_none e hp)]; exact e)
  obtain ⟨ad0, h10, h20, h30⟩ := S.sl
  have S3 := S2
  refine ⟨S3.f0, S3.gb, S3.fn, S3.fh, S3.bh, S3.dom, S3.len, fun x hx => ?_, S3.pl, S3.par, S3.pf, S3.pd, ad0, fun i s hs => ?_, fun i o' hs x hx hm => ?_, h30⟩
  · rcases List.mem_cons.mp hx with e | hx
    · subst e; exact ⟨S.ffree hp, by rw [upd_same]; simp⟩
    · exact S3.xf x hx
  · have q := h10 i s hs
    cases s with
    | no => trivial
    | d x => exact q
    | own u =>
      obtain ⟨a, e, r, z⟩ := q
      exact ⟨a, e, r.stay (Same.refl F) fun x hx => by rw [upd_ne (fun w => r.there x hx (by rw [w]; exact hp))], z⟩
    | par k => exact q
    | pin a => exact q
    | xn a dd y => exact q
  · rcases List.mem_cons.mp hm with e | hm
    · subst e
      obtain ⟨a, e, r, z⟩ := h10 i _ hs
      exact r.there _ hx hp
    · exact h20 i o' hs x hx hm
/-- fewer claims -/
theorem Sr.weak (S : Sr G B' ex' F H σ ρ) (b : Same B B') (g : Same G.B0 B) (e : ∀ x ∈ ex, x ∈ ex') : Sr G B ex F H σ ρ := by
  obtain ⟨ad, h1, h2, h3⟩ := S.sl
  refine ⟨S.f0, g, S.fn, S.fh, b.trans S.bh, S.dom, S.len, fun x hx => S.xf x (e x hx), S.pl, S.par, fun ap hap x hx => ?_, S.pd, ad, fun i s hs => ?_, fun i o hs x hx hm => h2 i o hs x hx (e x hm), h3⟩
  · obtain ⟨q1, q2, q3⟩ := S.pf ap hap x hx
    exact ⟨q1, b.free q2, q3⟩
  · have q := h1 i s hs
    cases s with
    | no => trivial
    | d x => exact q
    | own u =>
      obtain ⟨a, e, r, z⟩ := q
      exact ⟨a, e, r, fun x hx => ⟨(z x hx).1, (z x hx).2.1, b.free (z x hx).2.2⟩⟩
    | par k => exact q
    | pin a => exact q
    | xn a dd y => exact q
end

/-! ### readings over data -/
abbrev TEd := En → (D → En → Prop) → Prop
abbrev TTd := En → (Bool → En → Prop) → Prop
abbrev TAd := En → (List D → En → Prop) → Prop
abbrev TOd := En → (OD → En → Prop) → Prop
inductive Rv where
  | d (x : D) | own (o : OD)
structure EndsD where
  nx : En → Prop
  rt : Rv → En → Prop
  bk : En → Prop := fun _ => False
  ct : En → Prop := fun _ => False
abbrev TSd := EndsD → En → Prop

def LV (G : Gx) (B : Hp) (ex : List Addr) (F : Hp) (σ : St) (Q : D → En → Prop) : VK := fun v H' => ∃ F' x ρ', Same F F' ∧ Sr G B ex F' H' σ ρ' ∧ At G.K F' v x ∧ Q x ρ'
def LT (G : Gx) (B : Hp) (ex : List Addr) (F : Hp) (σ : St) (Q : Bool → En → Prop) : Bool → Hp → Prop := fun b H' => ∃ F' ρ', Same F F' ∧ Sr G B ex F' H' σ ρ' ∧ Q b ρ'
def LA (G : Gx) (B : Hp) (ex : List Addr) (F : Hp) (σ : St) (Q : List D → En → Prop) : List V → Hp → Prop := fun vs H' => ∃ F' xs ρ', Same F F' ∧ Sr G B ex F' H' σ ρ' ∧ AtL G.K F' vs xs ∧ Q xs ρ'
/-- a thing of its own, at its place, owned by no slot -/
def LO (G : Gx) (B : Hp) (ex : List Addr) (F : Hp) (σ : St) (Q : OD → En → Prop) : VK := fun v H' => ∃ F' p fp o ρ', Same F F' ∧ Sr G B (fp ++ ex) F' H' σ ρ' ∧ v = .ref p ∧ OwnAt G.K F' H' fp p o ∧ (∀ x ∈ fp, F' x = none ∧ G.H0 x = none ∧ B x = none) ∧ (∀ x ∈ ex, x ∉ fp) ∧ Q o ρ'
def LRv (G : Gx) (B : Hp) (F : Hp) (Q : Rv → En → Prop) : VK := fun v H' => ∃ σ ρ', (∃ F' x, Same F F' ∧ Sr G B [] F' H' σ ρ' ∧ At G.K F' v x ∧ Q (.d x) ρ') ∨
  (∃ F' p fp o, Same F F' ∧ Sr G B fp F' H' σ ρ' ∧ v = .ref p ∧ OwnAt G.K F' H' fp p o ∧ (∀ x ∈ fp, F' x = none ∧ G.H0 x = none ∧ B x = none) ∧ Q (.own o) ρ')
def LN (G : Gx) (B : Hp) (F : Hp) (Q : En → Prop) : St → Hp → Prop := fun σ H' => ∃ F' ρ', Same F F' ∧ Sr G B [] F' H' σ ρ' ∧ Q ρ'

/-- the wanted ends of the heap's reading are at hand -/
structure DLe (G : Gx) (B F : Hp) (Dd : EndsD) (D' : Ends) : Prop where
  nx : ∀ σ H', LN G B F Dd.nx σ H' → D'.nx σ H'
  rt : ∀ v H', LRv G B F Dd.rt v H' → D'.rt v H'
  bk : ∀ σ H', LN G B F Dd.bk σ H' → D'.bk σ H'
  ct : ∀ σ H', LN G B F Dd.ct σ H' → D'.ct σ H'
def SndE (G : Gx) (te : TE) (t : TEd) : Prop := ∀ (B : Hp) ex F H σ ρ Q (Qh : VK), Sr G B ex F H σ ρ → t ρ Q → (∀ v H', LV G B ex F σ Q v H' → Qh v H') → te σ H Qh
def SndT (G : Gx) (te : TT) (t : TTd) : Prop := ∀ (B : Hp) ex F H σ ρ Q (Qh : Bool → Hp → Prop), Sr G B ex F H σ ρ → t ρ Q → (∀ v H', LT G B ex F σ Q v H' → Qh v H') → te σ H Qh
def SndA (G : Gx) (te : TA) (t : TAd) : Prop := ∀ (B : Hp) ex F H σ ρ Q (Qh : List V → Hp → Prop), Sr G B ex F H σ ρ → t ρ Q → (∀ v H', LA G B ex F σ Q v H' → Qh v H') → te σ H Qh
def SndO (G : Gx) (te : TE) (t : TOd) : Prop := ∀ (B : Hp) ex F H σ ρ Q (Qh : VK), Sr G B ex F H σ ρ → t ρ Q → (∀ v H', LO G B ex F σ Q v H' → Qh v H') → te σ H Qh
def SndS (G : Gx) (ts : TS) (t : TSd) : Prop := ∀ (B : Hp) F H σ ρ Dd D', Sr G B [] F H σ ρ → t Dd ρ → DLe G B F Dd D' → ts D' σ H
def PEd (X : Cx) (G : Gx) (e : Expr) (t : TEd) : Prop := ∃ te, PE X e te ∧ SndE G te t
def PTd (X : Cx) (G : Gx) (e : Expr) (t : TTd) : Prop := ∃ te, PT X e te ∧ SndT G te t
def PWd (X : Cx) (G : Gx) (e : Expr) (t : TTd) : Prop := ∃ te, PW X e te ∧ SndT G te t
def PAd (X : Cx) (G : Gx) (es : List Expr) (t : TAd) : Prop := ∃ te, PA X es te ∧ SndA G te t
def POd (X : Cx) (G : Gx) (e : Expr) (t : TOd) : Prop := ∃ te, PE X e te ∧ SndO G te t
def PSd (X : Cx) (G : Gx) (st : Stmt) (t : TSd) : Prop := ∃ ts, PS X st ts ∧ SndS G ts t
def PSsd (X : Cx) (G : Gx) (st : List Stmt) (t : TSd) : Prop := ∃ ts, PSs X st ts ∧ SndS G ts t
end DL

/-! text DLb -/
set_option Elab.async false
set_option linter.all false
set_option maxRecDepth 100000
set_option maxHeartbeats 4000000
namespace DL
open PySem PySem.Spec PyProof.Rows L2

/-! ### growth -/
structure Grow (F H F' H' : Hp) : Prop where
  f : Same F F'
  n : ∀ a, F' a ≠ none → F a ≠ none ∨ H a = none
  fh : Same F' H'
  hh : Same H H'
theorem Grow.refl {F H : Hp} (h : Same F H) : Grow F H F H := ⟨Same.refl F, fun _ q => .inl q, h, Same.refl H⟩
theorem Grow.new {F H : Hp} {p : Addr} {o : HO} (h : Same F H) (hp : H p = none) : Grow F H (upd F p o) (upd H p o) := by
  have fp := h.free hp
  refine ⟨same_new fp, fun a q => ?_, fun b u e => ?_, same_new hp⟩
  · by_cases z : a = p
    · subst z; exact .inr hp
    · rw [upd_ne z] at q; exact .inl q
  · by_cases z : b = p
    · subst z; rw [upd_same] at e ⊢; exact e
    · rw [upd_ne z] at e ⊢; exact h _ _ e
theorem Sr.of_grow {G : Gx} {B F F' H H' : Hp} {σ : St} {ρ : En} {ex : List Addr} (S : Sr G B ex F H σ ρ) (g : Grow F H F' H') : Sr G B ex F' H' σ ρ := S.grow g.f g.n g.fh g.hh

/-! ### a thing of its own becomes still -/
theorem Sr.freeze {G : Gx} {B F H : Hp} {σ : St} {ρ : En} {ex : List Addr} (S : Sr G B ex F H σ ρ) {i : Nat} {o : OD} (hi : ρ.sl[i]? = some (.own o)) (ho : o.still = true) :
    ∃ F' v, Same F F' ∧ Sr G B ex F' H σ ⟨ρ.sl.set i (.d o.toD), ρ.pa⟩ ∧ σ[i]? = some (some v) ∧ At G.K F' v o.toD := by
  obtain ⟨ad, h1, h2, h3⟩ := S.sl
  obtain ⟨a, e, r, z⟩ := h1 i _ hi
  have zf : ∀ x ∈ ad i, F x = none := fun x hx => (z x hx).1
  have fs : Same F (over F H (ad i)) := same_over zf
  have at_ : At G.K (over F H (ad i)) (.ref a) o.toD := r.toAt zf ho
  refine ⟨over F H (ad i), .ref a, fs, ?_, e, at_⟩
  have lt : i < ρ.sl.length := (List.getElem?_eq_some_iff.mp hi).1
  have out : ∀ {x : Addr}, x ∉ ad i → F x = none → over F H (ad i) x = none := fun hx h => by rw [over_out hx]; exact h
  refine ⟨S.f0.trans fs, S.gb, fun b hb => ?_, fun b w hb => ?_, S.bh, S.dom, by simp [S.len], fun x hx => ⟨out (fun w => h2 i o hi x w hx) (S.xf x hx).1, (S.xf x hx).2⟩, S.pl, fun k ap o' q1 q2 => (S.par k ap o' q1 q2).stay fs fun _ _ => rfl, fun ap hap x hx => ?_, S.pd, ad, fun j s hs => ?_, fun j o' hs x hx => ?_, fun j k o' u' hj hk ne => ?_⟩
  · by_cases q : b ∈ ad i
    · exact .inr (z b q).2.1
    · rw [over_out q] at hb; exact S.fn b hb
  · by_cases q : b ∈ ad i
    · rw [over_in q] at hb; exact hb
    · rw [over_out q] at hb; exact S.fh _ _ hb
  · obtain ⟨q1, q2, q3⟩ := S.pf ap hap x hx
    exact ⟨out (fun w => q3 (z x w).2.1) q1, q2, q3⟩
  · by_cases q : j = i
    · subst q
      have hs' : (ρ.sl.set j (.d o.toD))[j]? = some s := hs
      rw [List.getElem?_set_self lt] at hs'
      cases hs'
      exact ⟨.ref a, e, at_⟩
    · have hs' : (ρ.sl.set i (.d o.toD))[j]? = some s := hs
      rw [List.getElem?_set_ne (Ne.symm q)] at hs'
      have w := h1 j s hs'
      cases s with
      | no => trivial
      | d x =>
        obtain ⟨v, e, r⟩ := w
        exact ⟨v, e, r.mono fs⟩
      | own o' =>
        obtain ⟨a', e', r', z'⟩ := w
        exact ⟨a', e', r'.stay fs fun _ _ => rfl, fun x hx => ⟨out (fun w => h3 i j o o' hi hs' (Ne.symm q) x w hx) (z' x hx).1, (z' x hx).2⟩⟩
      | par k => exact w
      | pin a => exact w
      | xn a dd y => obtain ⟨e1, v1, e2, e3⟩ := w; exact ⟨e1, v1, fs _ _ e2, e3.mono fs⟩
  · by_cases q : j = i
    · subst q
      have hs' : (ρ.sl.set j (.d o.toD))[j]? = some (.own o') := hs
      rw [List.getElem?_set_self lt] at hs'
      cases hs'
    · have hs' : (ρ.sl.set i (.d o.toD))[j]? = some (.own o') := hs
      rw [List.getElem?_set_ne (Ne.symm q)] at hs'
      exact h2 j o' hs' x hx
  · have nj : j ≠ i := fun w => by
      subst w
      have hs' : (ρ.sl.set j (.d o.toD))[j]? = some (.own o') := hj
      rw [List.getElem?_set_self lt] at hs'; cases hs'
    have nk : k ≠ i := fun w => by
      subst w
      have hs' : (ρ.sl.set k (.d o.toD))[k]? = some (.own u') := hk
      rw [List.getElem?_set_self lt] at hs'; cases hs'
    have hj' : (ρ.sl.set i (.d o.toD))[j]? = some (.own o') := hj
    have hk' : (ρ.sl.set i (.d o.toD))[k]? = some (.own u') := hk
    rw [List.getElem?_set_ne (Ne.symm nj)] at hj'
    rw [List.getElem?_set_ne (Ne.symm nk)] at hk'
    exact h3 j k o' u' hj' hk' ne

/-! ### operators by data -/
abbrev R2d := D → D → (D → Prop) → Prop
def OpRd (X : Cx) (K : PySem.W.Frag) (f : Value → Value → Sem Value) (rd : R2d) : Prop :=
  ∃ r, OpR X f r ∧ ∀ (F H : Hp) (x y : V) (dx dy : D) (Q : VK) (Qd : D → Prop), Same F H → At K F x dx → At K F y dy → rd dx dy Qd → (∀ v F' H' d, Grow F H F' H' → At K F' v d → Qd d → Q v H') → r x y H Q
abbrev R1d := D → (D → Prop) → Prop
def UnRd (X : Cx) (K : PySem.W.Frag) (f : Value → Sem Value) (rd : R1d) : Prop :=
  ∃ r, UnR X f r ∧ ∀ (F H : Hp) (x : V) (dx : D) (Q : VK) (Qd : D → Prop), Same F H → At K F x dx → rd dx Qd → (∀ v F' H' d, Grow F H F' H' → At K F' v d → Qd d → Q v H') → r x H Q
abbrev RLd := List D → (D → Prop) → Prop
def CallRd (X : Cx) (K : PySem.W.Frag) (f : Value) (rd : RLd) : Prop :=
  ∃ r, CallR X f r ∧ ∀ (F H : Hp) (xs : List V) (ds : List D) (Q : VK) (Qd : D → Prop), Same F H → AtL K F xs ds → rd ds Qd → (∀ v F' H' d, Grow F H F' H' → At K F' v d → Qd d → Q v H') → r xs H Q

section
variable {X : Cx} {G : Gx} {pos : Pos} {a b c e : Expr} {ta tb tc te : TEd}
/-! ### names, constants -/
def dVar (i : Nat) : TEd := fun ρ Q => match ρ.sl[i]? with
  | some (.d x) => Q x ρ
  | some (.own o) => o.still = true ∧ Q o.toD ⟨ρ.sl.set i (.d o.toD), ρ.pa⟩
  | _ => False
def dC (x : D) : TEd := fun ρ Q => Q x ρ
theorem d_var (i : Nat) {x : Str} (hN : X.N[i]? = some x := by rfl) (hv : Vis X.env.scope x := by first | exact Or.inl rfl | exact Or.inr (Or.inl rfl) | exact Or.inr (Or.inr rfl)) (hd : (x == ("__debug__" : Str)) = false := by decide)
    (hcd : (x == ("__classdict__" : Str)) = false := by decide) : PEd X G (.Name x pos) (dVar i) := by
  refine ⟨_, pe_var hN hv hd hcd, fun B ex F H σ ρ Q Qh S q k => ?_⟩
  unfold dVar at q
  split at q
  · rename_i x hx
    obtain ⟨ad, h1, _⟩ := S.sl
    obtain ⟨v, e, r⟩ := h1 i _ hx
    exact ⟨v, e, k _ _ ⟨F, x, ρ, Same.refl F, S, r, q⟩⟩
  · rename_i o ho
    obtain ⟨F', v, s, S', e, r⟩ := S.freeze ho q.1
    exact ⟨v, e, k _ _ ⟨F', _, _, s, S', r, q.2⟩⟩
  · exact q.elim
theorem d_pe {v : V} {x : D} (h : PE X e (tC v)) (r : ∀ F, At G.K F v x) : PEd X G e (dC x) := ⟨_, h, fun B ex F H σ ρ Q Qh S q k => k _ _ ⟨F, x, ρ, Same.refl F, S, r F, q⟩⟩
theorem d_int {i : Int} {j} : PEd X G (.Constant (.int i) j pos) (dC (.int i)) := d_pe pe_int fun _ => .int i
theorem d_bl {b : Bool} {j} : PEd X G (.Constant (.bool b) j pos) (dC (.bl b)) := d_pe pe_bl fun _ => .bl b
theorem d_non {j} : PEd X G (.Constant .none j pos) (dC .non) := d_pe pe_non fun _ => .non
theorem d_str {s : Str} {j} : PEd X G (.Constant (.str s) j pos) (dC (.str s)) := d_pe pe_str fun _ => .str s
theorem d_glob {x : Str} {v : V} {d : D} {u : Value} (hg : Gl X x) (hm : X.mg x = some u) (r : RelV v u) (q : ∀ F, At G.K F v d) (hd : (x == ("__debug__" : Str)) = false := by decide) : PEd X G (.Name x pos) (dC d) := d_pe (pe_glob hg hm r hd) q
theorem d_bltn {x : Str} {v : V} {d : D} {u : Value} (hg : Gl X x) (hm : X.mg x = none) (hv : bootBuiltins x = some u) (r : RelV v u) (q : ∀ F, At G.K F v d) (hn : x ≠ "__name__" := by decide) (hd : (x == ("__debug__" : Str)) = false := by decide) :
    PEd X G (.Name x pos) (dC d) := d_pe (pe_bltn hg hm hv r hn hd) q

/-! ### operators, comparisons, tests -/
def dOp (r : R2d) (ta tb : TEd) : TEd := fun ρ Q => ta ρ fun x ρ1 => tb ρ1 fun y ρ2 => r x y fun z => Q z ρ2
def dUn (r : R1d) (ta : TEd) : TEd := fun ρ Q => ta ρ fun x ρ1 => r x fun z => Q z ρ1
theorem snd_op {r : R2} {rd : R2d} {te tf : TE}
    (hr : ∀ (F H : Hp) (x y : V) (dx dy : D) (Q : VK) (Qd : D → Prop), Same F H → At G.K F x dx → At G.K F y dy → rd dx dy Qd → (∀ v F' H' d, Grow F H F' H' → At G.K F' v d → Qd d → Q v H') → r x y H Q)
    (h1 : SndE G te ta) (h2 : SndE G tf tb) : SndE G (tOp r te tf) (dOp rd ta tb) := by
  intro B ex F H σ ρ Q Qh S q k
  refine h1 B ex F H σ ρ _ _ S q ?_
  rintro x H1 ⟨F1, dx, ρ1, s1, S1, r1, q1⟩
  refine h2 B ex F1 H1 σ ρ1 _ _ S1 q1 ?_
  rintro y H2 ⟨F2, dy, ρ2, s2, S2, r2, q2⟩
  exact hr F2 H2 x y dx dy _ _ S2.fh (r1.mono s2) r2 q2 fun v F' H' d g rv qd => k _ _ ⟨F', d, ρ2, (s1.trans s2).trans g.f, S2.of_grow g, rv, qd⟩
theorem d_op {op : Operator} {rd : R2d} (ho : OpRd X G.K (binaryOp op) rd) (ha : PEd X G a ta) (hb : PEd X G b tb) : PEd X G (.BinOp a op b pos) (dOp rd ta tb) := by
  obtain ⟨r, h1, h2⟩ := ho
  obtain ⟨te, a1, a2⟩ := ha
  obtain ⟨tf, b1, b2⟩ := hb
  exact ⟨_, pe_op h1 a1 b1, snd_op h2 a2 b2⟩
theorem d_un {op : UnaryOp} {rd : R1d} (ho : UnRd X G.K (unaryOp op) rd) (ha : PEd X G a ta) : PEd X G (.UnaryOp op a pos) (dUn rd ta) := by
  obtain ⟨r, h1, h2⟩ := ho
  obtain ⟨te, a1, a2⟩ := ha
  refine ⟨_, pe_un h1 a1, fun B ex F H σ ρ Q Qh S q k => a2 B ex F H σ ρ _ _ S q ?_⟩
  rintro x H1 ⟨F1, dx, ρ1, s1, S1, r1, q1⟩
  exact h2 F1 H1 x dx _ _ S1.fh r1 q1 fun v F' H' d g rv qd => k _ _ ⟨F', d, ρ1, s1.trans g.f, S1.of_grow g, rv, qd⟩
theorem d_cmp {op : CmpOp} {rd : R2d} (ho : OpRd X G.K (compareOp op) rd) (ha : PEd X G a ta) (hb : PEd X G b tb) (hm : behindInMarks op b = false := by first | exact nomark _ | rfl) : PEd X G (.Compare a [op] [b] pos) (dOp rd ta tb) := by
  obtain ⟨r, h1, h2⟩ := ho
  obtain ⟨te, a1, a2⟩ := ha
  obtain ⟨tf, b1, b2⟩ := hb
  exact ⟨_, pe_cmpR h1 a1 b1 hm, snd_op h2 a2 b2⟩
/-- a value that is True or False, as a test -/
def dT (t : TEd) : TTd := fun ρ Q => t ρ fun x ρ1 => match x with
  | .bl b => Q b ρ1
  | _ => False
theorem snd_test {te : TE} {t : TEd} (h : SndE G te t) : SndT G (tTest te) (dT t) := by
  intro B ex F H σ ρ Q Qh S q k
  refine h B ex F H σ ρ _ _ S q ?_
  rintro x H1 ⟨F1, dx, ρ1, s1, S1, r1, q1⟩
  cases r1 with
  | bl b => exact ⟨b, rfl, k _ _ ⟨F1, ρ1, s1, S1, q1⟩⟩
  | _ => exact q1.elim
theorem d_tcmp {op : CmpOp} {rd : R2d} (ho : OpRd X G.K (compareOp op) rd) (ha : PEd X G a ta) (hb : PEd X G b tb) (hm : behindInMarks op b = false := by first | exact nomark _ | rfl) : PTd X G (.Compare a [op] [b] pos) (dT (dOp rd ta tb)) := by
  obtain ⟨r, h1, h2⟩ := ho
  obtain ⟨te, a1, a2⟩ := ha
  obtain ⟨tf, b1, b2⟩ := hb
  exact ⟨_, pt_cmpR h1 a1 b1 hm, snd_test (snd_op h2 a2 b2)⟩
theorem d_tval {t : TEd} (h : PEd X G e t) (he : ∀ whole, isTrue e X.env whole = (do let v ← whole; standAt e.pos; holding [v] (truthy v)) := by intro _; rfl) : PTd X G e (dT t) := by
  obtain ⟨te, h1, h2⟩ := h
  exact ⟨_, pt_val h1 he, snd_test h2⟩
/-- a < b < c -/
def dChain (r r' : R2d) (ta tb tc : TEd) : TEd := fun ρ Q => ta ρ fun x ρ1 => tb ρ1 fun y ρ2 => r x y fun z => match z with
  | .bl true => tc ρ2 fun w ρ3 => r' y w fun u => Q u ρ3
  | .bl false => Q (.bl false) ρ2
  | _ => False
theorem snd_chain {r r' : R2} {rd rd' : R2d} {te tf tg : TE}
    (hr : ∀ (F H : Hp) (x y : V) (dx dy : D) (Q : VK) (Qd : D → Prop), Same F H → At G.K F x dx → At G.K F y dy → rd dx dy Qd → (∀ v F' H' d, Grow F H F' H' → At G.K F' v d → Qd d → Q v H') → r x y H Q)
    (hr' : ∀ (F H : Hp) (x y : V) (dx dy : D) (Q : VK) (Qd : D → Prop), Same F H → At G.K F x dx → At G.K F y dy → rd' dx dy Qd → (∀ v F' H' d, Grow F H F' H' → At G.K F' v d → Qd d → Q v H') → r' x y H Q)
    (h1 : SndE G te ta) (h2 : SndE G tf tb) (h3 : SndE G tg tc) : SndE G (tChain r r' te tf tg) (dChain rd rd' ta tb tc) := by
  intro B ex F H σ ρ Q Qh S q k
  refine h1 B ex F H σ ρ _ _ S q ?_
  rintro x H1 ⟨F1, dx, ρ1, s1, S1, r1, q1⟩
  refine h2 B ex F1 H1 σ ρ1 _ _ S1 q1 ?_
  rintro y H2 ⟨F2, dy, ρ2, s2, S2, r2, q2⟩
  refine hr F2 H2 x y dx dy _ _ S2.fh (r1.mono s2) r2 q2 fun v F' H' d g rv qd => ?_
  cases rv with
  | bl b =>
    refine ⟨b, rfl, ?_⟩
    cases b with
    | true =>
      rw [if_pos rfl]
      refine h3 B ex F' H' σ ρ2 _ _ (S2.of_grow g) qd ?_
      rintro w H3 ⟨F3, dw, ρ3, s3, S3, r3, q3⟩
      exact hr' F3 H3 y w dy dw _ _ S3.fh (r2.mono (g.f.trans s3)) r3 q3 fun v F4 H4 d g4 rv qd => k _ _ ⟨F4, d, ρ3, (((s1.trans s2).trans g.f).trans s3).trans g4.f, S3.of_grow g4, rv, qd⟩
    | false =>
      rw [if_neg Bool.false_ne_true]
      exact k _ _ ⟨F', _, ρ2, (s1.trans s2).trans g.f, S2.of_grow g, .bl false, qd⟩
  | _ => exact qd.elim
theorem d_chain {op op' : CmpOp} {rd rd' : R2d} (ho : OpRd X G.K (compareOp op) rd) (ho' : OpRd X G.K (compareOp op') rd') (ha : PEd X G a ta) (hb : PEd X G b tb) (hc : PEd X G c tc)
    (hm : lastMarks [op, op'] [b, c] = false := by with_unfolding_all rfl) : PEd X G (.Compare a [op, op'] [b, c] pos) (dChain rd rd' ta tb tc) := by
  obtain ⟨r, h1, h2⟩ := ho
  obtain ⟨r', h1', h2'⟩ := ho'
  obtain ⟨te, a1, a2⟩ := ha
  obtain ⟨tf, b1, b2⟩ := hb
  obtain ⟨tg, c1, c2⟩ := hc
  exact ⟨_, pe_chain h1 h1' a1 b1 c1 hm, snd_chain h2 h2' a2 b2 c2⟩
end
end DL

/-! text DLc -/
set_option Elab.async false
set_option linter.all false
set_option maxRecDepth 100000
set_option maxHeartbeats 4000000
namespace DL
open PySem PySem.Spec PyProof.Rows L2
section
variable {X : Cx} {G : Gx} {pos : Pos} {a b c e : Expr} {ta tb tc te : TEd} {tA tB : TTd} {rest es : List Expr} {t : TAd}
/-! ### and, or, not, if else -/
def dAndV (ta tb : TEd) : TEd := fun ρ Q => ta ρ fun x ρ1 => match x with
  | .bl true => tb ρ1 Q
  | .bl false => Q (.bl false) ρ1
  | _ => False
def dOrV (ta tb : TEd) : TEd := fun ρ Q => ta ρ fun x ρ1 => match x with
  | .bl true => Q (.bl true) ρ1
  | .bl false => tb ρ1 Q
  | _ => False
def dNotV (ta : TEd) : TEd := fun ρ Q => ta ρ fun x ρ1 => match x with
  | .bl b => Q (.bl (!b)) ρ1
  | _ => False
def dAnd (t u : TTd) : TTd := fun ρ Q => t ρ fun b ρ1 => if b = true then u ρ1 Q else Q false ρ1
def dOr (t u : TTd) : TTd := fun ρ Q => t ρ fun b ρ1 => if b = true then Q true ρ1 else u ρ1 Q
def dNot (t : TTd) : TTd := fun ρ Q => t ρ fun b ρ1 => Q (!b) ρ1
def dIf (t : TTd) (ta tb : TEd) : TEd := fun ρ Q => t ρ fun b ρ1 => if b = true then ta ρ1 Q else tb ρ1 Q
theorem d_one {op} (h : PEd X G a ta) : PEd X G (.BoolOp op [a] pos) ta := by
  obtain ⟨t, h1, h2⟩ := h
  exact ⟨t, pe_one h1, h2⟩
theorem d_and (ha : PEd X G a ta) (hb : PEd X G (.BoolOp .And (b :: rest) pos) tb) : PEd X G (.BoolOp .And (a :: b :: rest) pos) (dAndV ta tb) := by
  obtain ⟨t, h1, h2⟩ := ha
  obtain ⟨u, k1, k2⟩ := hb
  refine ⟨_, pe_and h1 k1, fun B ex F H σ ρ Q Qh S q k => h2 B ex F H σ ρ _ _ S q ?_⟩
  rintro x H1 ⟨F1, dx, ρ1, s1, S1, r1, q1⟩
  cases r1 with
  | bl b =>
    refine ⟨b, rfl, ?_⟩
    cases b with
    | true =>
      rw [if_pos rfl]
      exact k2 B ex F1 H1 σ ρ1 _ _ S1 q1 fun v H' ⟨F2, d, ρ2, s2, S2, r2, q2⟩ => k _ _ ⟨F2, d, ρ2, s1.trans s2, S2, r2, q2⟩
    | false =>
      rw [if_neg Bool.false_ne_true]
      exact k _ _ ⟨F1, _, ρ1, s1, S1, .bl false, q1⟩
  | _ => exact q1.elim
theorem d_or (ha : PEd X G a ta) (hb : PEd X G (.BoolOp .Or (b :: rest) pos) tb) : PEd X G (.BoolOp .Or (a :: b :: rest) pos) (dOrV ta tb) := by
  obtain ⟨t, h1, h2⟩ := ha
  obtain ⟨u, k1, k2⟩ := hb
  refine ⟨_, pe_or h1 k1, fun B ex F H σ ρ Q Qh S q k => h2 B ex F H σ ρ _ _ S q ?_⟩
  rintro x H1 ⟨F1, dx, ρ1, s1, S1, r1, q1⟩
  cases r1 with
  | bl b =>
    refine ⟨b, rfl, ?_⟩
    cases b with
    | true =>
      rw [if_pos rfl]
      exact k _ _ ⟨F1, _, ρ1, s1, S1, .bl true, q1⟩
    | false =>
      rw [if_neg Bool.false_ne_true]
      exact k2 B ex F1 H1 σ ρ1 _ _ S1 q1 fun v H' ⟨F2, d, ρ2, s2, S2, r2, q2⟩ => k _ _ ⟨F2, d, ρ2, s1.trans s2, S2, r2, q2⟩
  | _ => exact q1.elim
theorem d_not (ha : PEd X G a ta) : PEd X G (.UnaryOp .Not a pos) (dNotV ta) := by
  obtain ⟨t, h1, h2⟩ := ha
  refine ⟨_, pe_not h1, fun B ex F H σ ρ Q Qh S q k => h2 B ex F H σ ρ _ _ S q ?_⟩
  rintro x H1 ⟨F1, dx, ρ1, s1, S1, r1, q1⟩
  cases r1 with
  | bl b => exact ⟨b, rfl, k _ _ ⟨F1, _, ρ1, s1, S1, .bl _, q1⟩⟩
  | _ => exact q1.elim
theorem d_wand1 (ha : PTd X G a tA) : PWd X G (.BoolOp .And [a] pos) tA := by
  obtain ⟨t, h1, h2⟩ := ha
  exact ⟨t, pw_and1 h1, h2⟩
theorem d_wor1 (ha : PTd X G a tA) : PWd X G (.BoolOp .Or [a] pos) tA := by
  obtain ⟨t, h1, h2⟩ := ha
  exact ⟨t, pw_or1 h1, h2⟩
theorem d_wand (ha : PTd X G a tA) (hb : PWd X G (.BoolOp .And (b :: rest) pos) tB) : PWd X G (.BoolOp .And (a :: b :: rest) pos) (dAnd tA tB) := by
  obtain ⟨t, h1, h2⟩ := ha
  obtain ⟨u, k1, k2⟩ := hb
  refine ⟨_, pw_and h1 k1, fun B ex F H σ ρ Q Qh S q k => h2 B ex F H σ ρ _ _ S q ?_⟩
  rintro b H1 ⟨F1, ρ1, s1, S1, q1⟩
  cases b with
  | true =>
    rw [if_pos rfl] at q1 ⊢
    exact k2 B ex F1 H1 σ ρ1 _ _ S1 q1 fun v H' ⟨F2, ρ2, s2, S2, q2⟩ => k _ _ ⟨F2, ρ2, s1.trans s2, S2, q2⟩
  | false =>
    rw [if_neg Bool.false_ne_true] at q1 ⊢
    exact k _ _ ⟨F1, ρ1, s1, S1, q1⟩
theorem d_wor (ha : PTd X G a tA) (hb : PWd X G (.BoolOp .Or (b :: rest) pos) tB) : PWd X G (.BoolOp .Or (a :: b :: rest) pos) (dOr tA tB) := by
  obtain ⟨t, h1, h2⟩ := ha
  obtain ⟨u, k1, k2⟩ := hb
  refine ⟨_, pw_or h1 k1, fun B ex F H σ ρ Q Qh S q k => h2 B ex F H σ ρ _ _ S q ?_⟩
  rintro b H1 ⟨F1, ρ1, s1, S1, q1⟩
  cases b with
  | true =>
    rw [if_pos rfl] at q1 ⊢
    exact k _ _ ⟨F1, ρ1, s1, S1, q1⟩
  | false =>
    rw [if_neg Bool.false_ne_true] at q1 ⊢
    exact k2 B ex F1 H1 σ ρ1 _ _ S1 q1 fun v H' ⟨F2, ρ2, s2, S2, q2⟩ => k _ _ ⟨F2, ρ2, s1.trans s2, S2, q2⟩
theorem d_pw (h : PWd X G e tA) : PTd X G e tA := by
  obtain ⟨t, h1, h2⟩ := h
  exact ⟨t, h1.pt, h2⟩
theorem d_tnot (ha : PTd X G a tA) : PTd X G (.UnaryOp .Not a pos) (dNot tA) := by
  obtain ⟨t, h1, h2⟩ := ha
  refine ⟨_, pt_not h1, fun B ex F H σ ρ Q Qh S q k => h2 B ex F H σ ρ _ _ S q ?_⟩
  rintro b H1 ⟨F1, ρ1, s1, S1, q1⟩
  exact k _ _ ⟨F1, ρ1, s1, S1, q1⟩
theorem d_ifExp (hc : PTd X G c tA) (ha : PEd X G a ta) (hb : PEd X G b tb) : PEd X G (.IfExp c a b pos) (dIf tA ta tb) := by
  obtain ⟨t, h1, h2⟩ := hc
  obtain ⟨u, k1, k2⟩ := ha
  obtain ⟨w, l1, l2⟩ := hb
  refine ⟨_, pe_ifExp h1 k1 l1, fun B ex F H σ ρ Q Qh S q k => h2 B ex F H σ ρ _ _ S q ?_⟩
  rintro b H1 ⟨F1, ρ1, s1, S1, q1⟩
  cases b with
  | true =>
    rw [if_pos rfl] at q1 ⊢
    exact k2 B ex F1 H1 σ ρ1 _ _ S1 q1 fun v H' ⟨F2, d, ρ2, s2, S2, r2, q2⟩ => k _ _ ⟨F2, d, ρ2, s1.trans s2, S2, r2, q2⟩
  | false =>
    rw [if_neg Bool.false_ne_true] at q1 ⊢
    exact l2 B ex F1 H1 σ ρ1 _ _ S1 q1 fun v H' ⟨F2, d, ρ2, s2, S2, r2, q2⟩ => k _ _ ⟨F2, d, ρ2, s1.trans s2, S2, r2, q2⟩

/-! ### arguments, displays, calls of built-ins -/
def dNil : TAd := fun ρ Q => Q [] ρ
def dCons (ta : TEd) (tr : TAd) : TAd := fun ρ Q => ta ρ fun x ρ1 => tr ρ1 fun xs ρ2 => Q (x :: xs) ρ2
theorem da_nil : PAd X G [] dNil := ⟨_, pa_nil, fun B ex F H σ ρ Q Qh S q k => k _ _ ⟨F, [], ρ, Same.refl F, S, .nil, q⟩⟩
theorem da_cons (ha : PEd X G e te) (hr : PAd X G es t) (hs : starEach (e :: es) X.env = (false, eval e X.env) :: starEach es X.env := by rfl) : PAd X G (e :: es) (dCons te t) := by
  obtain ⟨u, h1, h2⟩ := ha
  obtain ⟨w, k1, k2⟩ := hr
  refine ⟨_, pa_cons h1 k1 hs, fun B ex F H σ ρ Q Qh S q k => h2 B ex F H σ ρ _ _ S q ?_⟩
  rintro x H1 ⟨F1, dx, ρ1, s1, S1, r1, q1⟩
  refine k2 B ex F1 H1 σ ρ1 _ _ S1 q1 ?_
  rintro xs H2 ⟨F2, ds, ρ2, s2, S2, r2, q2⟩
  exact k _ _ ⟨F2, _, ρ2, s1.trans s2, S2, .cons (r1.mono s2) r2, q2⟩
def dTup (t : TAd) : TEd := fun ρ Q => t ρ fun xs ρ1 => xs.length ≤ sizeLine ∧ Q (.tup xs) ρ1
def dLst (t : TAd) : TEd := fun ρ Q => t ρ fun xs ρ1 => xs.length ≤ sizeLine ∧ Q (.lst xs) ρ1
theorem d_tup {x1} (h : PAd X G es t) : PEd X G (.Tuple es x1 pos) (dTup t) := by
  obtain ⟨u, h1, h2⟩ := h
  refine ⟨_, pe_tup h1, fun B ex F H σ ρ Q Qh S q k => h2 B ex F H σ ρ _ _ S q ?_⟩
  rintro xs H1 ⟨F1, ds, ρ1, s1, S1, r1, q1⟩
  exact ⟨by rw [r1.length]; exact q1.1, fun p hp => k _ _ ⟨_, _, ρ1, s1.trans (same_new (S1.ffree hp)), S1.new hp, .tup (SqT.of upd_same) (r1.mono (same_new (S1.ffree hp))), q1.2⟩⟩
theorem d_lst (h : PAd X G es t) : PEd X G (.List es pos) (dLst t) := by
  obtain ⟨u, h1, h2⟩ := h
  refine ⟨_, pe_lst h1, fun B ex F H σ ρ Q Qh S q k => h2 B ex F H σ ρ _ _ S q ?_⟩
  rintro xs H1 ⟨F1, ds, ρ1, s1, S1, r1, q1⟩
  exact ⟨by rw [r1.length]; exact q1.1, fun p hp => k _ _ ⟨_, _, ρ1, s1.trans (same_new (S1.ffree hp)), S1.new hp, .lst upd_same (r1.mono (same_new (S1.ffree hp))), q1.2⟩⟩
/-- a display that stays one's own -/
def dLstO (t : TAd) : TOd := fun ρ Q => t ρ fun xs ρ1 => xs.length ≤ sizeLine ∧ Q (.lst xs) ρ1
theorem d_lstO (h : PAd X G es t) : POd X G (.List es pos) (dLstO t) := by
  obtain ⟨u, h1, h2⟩ := h
  refine ⟨_, pe_lst h1, fun B ex F H σ ρ Q Qh S q k => h2 B ex F H σ ρ _ _ S q ?_⟩
  rintro xs H1 ⟨F1, ds, ρ1, s1, S1, r1, q1⟩
  refine ⟨by rw [r1.length]; exact q1.1, fun p hp => k _ _ ⟨F1, p, [p], .lst ds, ρ1, s1, S1.newX hp, rfl, ⟨rfl, xs, upd_same, r1⟩, fun x hx => ?_, fun x hx hm => ?_, q1.2⟩⟩
  · rw [List.mem_singleton] at hx
    subst hx
    exact ⟨S1.ffree hp, S1.dom _ hp, S1.bfree hp⟩
  · rw [List.mem_singleton] at hm
    subst hm
    exact (S1.xf _ hx).2 hp
def dCB (r : RLd) (t : TAd) : TEd := fun ρ Q => t ρ fun xs ρ1 => r xs fun z => Q z ρ1
theorem snd_cb {r : List V → Hp → VK → Prop} {rd : RLd} {tu : TA}
    (hr : ∀ (F H : Hp) (xs : List V) (ds : List D) (Q : VK) (Qd : D → Prop), Same F H → AtL G.K F xs ds → rd ds Qd → (∀ v F' H' d, Grow F H F' H' → At G.K F' v d → Qd d → Q v H') → r xs H Q)
    (h : SndA G tu t) : SndE G (tCB r tu) (dCB rd t) := by
  intro B ex F H σ ρ Q Qh S q k
  refine h B ex F H σ ρ _ _ S q ?_
  rintro xs H1 ⟨F1, ds, ρ1, s1, S1, r1, q1⟩
  exact hr F1 H1 xs ds _ _ S1.fh r1 q1 fun v F' H' d g rv qd => k _ _ ⟨F', d, ρ1, s1.trans g.f, S1.of_grow g, rv, qd⟩
theorem d_cb {x : Str} {p : Pos} {id : String} {rd : RLd} (hc : CallRd X G.K (.builtin id) rd) (hg : Gl X x) (hm : X.mg x = none) (hv : bootBuiltins x = some (.builtin id)) (ha : PAd X G (e :: es) t) (hn : x ≠ "__name__" := by decide) (hdb : (x == ("__debug__" : Str)) = false := by decide)
    (he : starEach (e :: es) X.env = (false, eval e X.env) :: starEach es X.env := by rfl) (hpl : (backTo pos (starEach es X.env)).any (·.1) = false := by rfl) : PEd X G (.Call (.Name x p) (e :: es) [] pos) (dCB rd t) := by
  obtain ⟨r, h1, h2⟩ := hc
  obtain ⟨u, k1, k2⟩ := ha
  exact ⟨_, pe_callB h1 hg hm hv k1 hn hdb he hpl, snd_cb h2 k2⟩
theorem d_cty {x : Str} {p : Pos} {T : String} {rd : RLd} (hc : CallRd X G.K (.type T) rd) (hg : Gl X x) (hm : X.mg x = none) (hv : bootBuiltins x = some (.type T)) (ha : PAd X G (e :: es) t) (hn : x ≠ "__name__" := by decide) (hdb : (x == ("__debug__" : Str)) = false := by decide)
    (he : starEach (e :: es) X.env = (false, eval e X.env) :: starEach es X.env := by rfl) (hpl : (backTo pos (starEach es X.env)).any (·.1) = false := by rfl) : PEd X G (.Call (.Name x p) (e :: es) [] pos) (dCB rd t) := by
  obtain ⟨r, h1, h2⟩ := hc
  obtain ⟨u, k1, k2⟩ := ha
  exact ⟨_, pe_callTy h1 hg hm hv k1 hn hdb he hpl, snd_cb h2 k2⟩
end

/-! ### statements -/
theorem LN.imp {G : Gx} {B F F1 : Hp} {Q Q' : En → Prop} {σ : St} {H : Hp} (s : Same F F1) (h : ∀ ρ, Q ρ → Q' ρ) : LN G B F1 Q σ H → LN G B F Q' σ H := fun ⟨F', ρ', s', S', q⟩ => ⟨F', ρ', s.trans s', S', h _ q⟩
theorem LRv.step {G : Gx} {B F F1 : Hp} {Q : Rv → En → Prop} {v : V} {H : Hp} (s : Same F F1) : LRv G B F1 Q v H → LRv G B F Q v H := by
  rintro ⟨σ, ρ, ⟨F', x, s', S', r, q⟩ | ⟨F', p, fp, o, s', S', e, r, z, q⟩⟩
  · exact ⟨σ, ρ, .inl ⟨F', x, s.trans s', S', r, q⟩⟩
  · exact ⟨σ, ρ, .inr ⟨F', p, fp, o, s.trans s', S', e, r, z, q⟩⟩
theorem DLe.step {G : Gx} {B F F1 : Hp} {Dd : EndsD} {D' : Ends} (s : Same F F1) (k : DLe G B F Dd D') : DLe G B F1 Dd D' :=
  ⟨fun σ H' q => k.nx σ H' (q.imp s fun _ h => h), fun v H' q => k.rt v H' (q.step s), fun σ H' q => k.bk σ H' (q.imp s fun _ h => h), fun σ H' q => k.ct σ H' (q.imp s fun _ h => h)⟩
section
variable {X : Cx} {G : Gx} {pos : Pos} {a b c e : Expr} {ta tb tc te : TEd} {tA tB : TTd} {st : Stmt} {rest sa sb : List Stmt} {t u : TSd}
def dNext : TSd := fun D ρ => D.nx ρ
def dSeq (t u : TSd) : TSd := fun D ρ => t { D with nx := u D } ρ
theorem ds_nil : PSsd X G [] dNext := ⟨_, pss_nil, fun B F H σ ρ Dd D' S q k => k.nx _ _ ⟨F, ρ, Same.refl F, S, q⟩⟩
theorem ds_cons (h1 : PSd X G st t) (h2 : PSsd X G rest u) : PSsd X G (st :: rest) (dSeq t u) := by
  obtain ⟨w, a1, a2⟩ := h1
  obtain ⟨y, b1, b2⟩ := h2
  refine ⟨_, pss_cons a1 b1, fun B F H σ ρ Dd D' S q k => ?_⟩
  refine a2 B F H σ ρ { Dd with nx := u Dd } _ S q ⟨?_, k.rt, k.bk, k.ct⟩
  rintro σ' H' ⟨F', ρ', s', S', q'⟩
  exact b2 B F' H' σ' ρ' Dd D' S' q' (k.step s')
theorem ds_one (h1 : PSd X G st t) : PSsd X G [st] t := by
  obtain ⟨w, a1, a2⟩ := h1
  exact ⟨w, pss_one a1, a2⟩
theorem ds_pass : PSd X G (.Pass pos) dNext := ⟨_, ps_pass, fun B F H σ ρ Dd D' S q k => k.nx _ _ ⟨F, ρ, Same.refl F, S, q⟩⟩
def dBrk : TSd := fun D ρ => D.bk ρ
def dCnt : TSd := fun D ρ => D.ct ρ
theorem ds_break : PSd X G (.Break pos) dBrk := ⟨_, ps_break, fun B F H σ ρ Dd D' S q k => k.bk _ _ ⟨F, ρ, Same.refl F, S, q⟩⟩
theorem ds_cont : PSd X G (.Continue pos) dCnt := ⟨_, ps_continue, fun B F H σ ρ Dd D' S q k => k.ct _ _ ⟨F, ρ, Same.refl F, S, q⟩⟩
theorem ds_never : PSd X G st (fun _ _ => False) := ⟨_, ps_never, fun _ _ _ _ _ _ _ _ q _ => q.elim⟩
theorem dss_never {sts : List Stmt} : PSsd X G sts (fun _ _ => False) := ⟨_, pss_never, fun _ _ _ _ _ _ _ _ q _ => q.elim⟩
def dDrop (te : TEd) : TSd := fun D ρ => te ρ fun _ ρ1 => D.nx ρ1
theorem ds_expr (he : PEd X G e te) (hs : swapsWith e none pos.line X.env = pure false := by rfl) : PSd X G (.Expr e pos) (dDrop te) := by
  obtain ⟨w, a1, a2⟩ := he
  refine ⟨_, ps_expr a1 hs, fun B F H σ ρ Dd D' S q k => a2 B [] F H σ ρ _ _ S q ?_⟩
  rintro v H1 ⟨F1, d, ρ1, s1, S1, r1, q1⟩
  exact k.nx _ _ ⟨F1, ρ1, s1, S1, q1⟩
def dRet (te : TEd) : TSd := fun D ρ => te ρ fun x ρ1 => D.rt (.d x) ρ1
theorem ds_ret (he : PEd X G e te) : PSd X G (.Return (some e) pos) (dRet te) := by
  obtain ⟨w, a1, a2⟩ := he
  refine ⟨_, ps_ret a1, fun B F H σ ρ Dd D' S q k => a2 B [] F H σ ρ _ _ S q ?_⟩
  rintro v H1 ⟨F1, d, ρ1, s1, S1, r1, q1⟩
  exact k.rt _ _ ⟨σ, ρ1, .inl ⟨F1, d, s1, S1, r1, q1⟩⟩
def dRetN : TSd := fun D ρ => D.rt (.d .non) ρ
theorem ds_retN : PSd X G (.Return none pos) dRetN := ⟨_, ps_retN, fun B F H σ ρ Dd D' S q k => k.rt _ _ ⟨σ, ρ, .inl ⟨F, .non, Same.refl F, S, .non, q⟩⟩⟩
def dRetO (te : TOd) : TSd := fun D ρ => te ρ fun o ρ1 => D.rt (.own o) ρ1
theorem ds_retO {to : TOd} (he : POd X G e to) : PSd X G (.Return (some e) pos) (dRetO to) := by
  obtain ⟨w, a1, a2⟩ := he
  refine ⟨_, ps_ret a1, fun B F H σ ρ Dd D' S q k => a2 B [] F H σ ρ _ _ S q ?_⟩
  rintro v H1 ⟨F1, p, fp, o, ρ1, s1, S1, ev, r1, z1, _, q1⟩
  rw [List.append_nil] at S1
  exact k.rt _ _ ⟨σ, ρ1, .inr ⟨F1, p, fp, o, s1, S1, ev, r1, z1, q1⟩⟩
def dIfS (c : TTd) (t u : TSd) : TSd := fun D ρ => c ρ fun b ρ1 => if b = true then t D ρ1 else u D ρ1
theorem ds_if (hc : PTd X G c tA) (ha : PSsd X G sa t) (hb : PSsd X G sb u) : PSd X G (.If c sa sb pos) (dIfS tA t u) := by
  obtain ⟨w, a1, a2⟩ := hc
  obtain ⟨y, b1, b2⟩ := ha
  obtain ⟨z, c1, c2⟩ := hb
  refine ⟨_, ps_if a1 b1 c1, fun B F H σ ρ Dd D' S q k => a2 B [] F H σ ρ _ _ S q ?_⟩
  rintro b H1 ⟨F1, ρ1, s1, S1, q1⟩
  cases b with
  | true =>
    rw [if_pos rfl] at q1 ⊢
    exact b2 B F1 H1 σ ρ1 Dd D' S1 q1 (k.step s1)
  | false =>
    rw [if_neg Bool.false_ne_true] at q1 ⊢
    exact c2 B F1 H1 σ ρ1 Dd D' S1 q1 (k.step s1)
/-- a slot gets a datum -/
theorem Sr.set {B F H : Hp} {σ : St} {ρ : En} {ex : List Addr} (S : Sr G B ex F H σ ρ) (i : Nat) {v : V} {x : D} (r : At G.K F v x) : Sr G B ex F H (σ.set i (some v)) ⟨ρ.sl.set i (.d x), ρ.pa⟩ := by
  obtain ⟨ad, h1, h2, h3⟩ := S.sl
  refine ⟨S.f0, S.gb, S.fn, S.fh, S.bh, S.dom, by simp [S.len], S.xf, S.pl, S.par, S.pf, S.pd, ad, fun j s hs => ?_, fun j o hs => ?_, fun j k o u hj hk ne => ?_⟩
  · have hs' : (ρ.sl.set i (.d x))[j]? = some s := hs
    by_cases q : j = i
    · subst q
      have lt : j < (ρ.sl.set j (.d x)).length := (List.getElem?_eq_some_iff.mp hs').1
      rw [List.length_set] at lt
      rw [List.getElem?_set_self lt] at hs'
      cases hs'
      rw [List.getElem?_set_self (by rw [← S.len]; exact lt)]
      exact ⟨v, rfl, r⟩
    · rw [List.getElem?_set_ne (Ne.symm q)] at hs'
      rw [List.getElem?_set_ne (Ne.symm q)]
      exact h1 j s hs'
  · have hs' : (ρ.sl.set i (.d x))[j]? = some (.own o) := hs
    by_cases q : j = i
    · subst q
      have lt : j < (ρ.sl.set j (.d x)).length := (List.getElem?_eq_some_iff.mp hs').1
      rw [List.length_set] at lt
      rw [List.getElem?_set_self lt] at hs'
      cases hs'
    · rw [List.getElem?_set_ne (Ne.symm q)] at hs'
      exact h2 j o hs'
  · have go : ∀ {l : Nat} {w : OD}, (ρ.sl.set i (.d x))[l]? = some (.own w) → ρ.sl[l]? = some (.own w) := fun {l w} hs' => by
      by_cases q : l = i
      · subst q
        have lt : l < (ρ.sl.set l (.d x)).length := (List.getElem?_eq_some_iff.mp hs').1
        rw [List.length_set] at lt
        rw [List.getElem?_set_self lt] at hs'
        cases hs'
      · rw [List.getElem?_set_ne (Ne.symm q)] at hs'
        exact hs'
    exact h3 j k o u (go hj) (go hk) ne
/-- a slot gets a thing of its own -/
theorem Sr.setO {B F H : Hp} {σ : St} {ρ : En} {fp ex : List Addr} (S : Sr G B (fp ++ ex) F H σ ρ) (i : Nat) {p : Addr} {o : OD} (r : OwnAt G.K F H fp p o) (z : ∀ x ∈ fp, F x = none ∧ G.H0 x = none ∧ B x = none) (dj : ∀ x ∈ ex, x ∉ fp) :
    Sr G B ex F H (σ.set i (some (.ref p))) ⟨ρ.sl.set i (.own o), ρ.pa⟩ := by
  obtain ⟨ad, h1, h2, h3⟩ := S.sl
  refine ⟨S.f0, S.gb, S.fn, S.fh, S.bh, S.dom, by simp [S.len], fun x hx => S.xf x (List.mem_append_right _ hx), S.pl, S.par, S.pf, S.pd, fun j => if j = i then fp else ad j, fun j s hs => ?_, fun j o' hs x hx hm => ?_, fun j k o' u hj hk ne => ?_⟩
  · have hs' : (ρ.sl.set i (.own o))[j]? = some s := hs
    by_cases q : j = i
    · subst q
      have lt : j < (ρ.sl.set j (.own o)).length := (List.getElem?_eq_some_iff.mp hs').1
      rw [List.length_set] at lt
      rw [List.getElem?_set_self lt] at hs'
      cases hs'
      dsimp only
      rw [List.getElem?_set_self (by rw [← S.len]; exact lt), if_pos rfl]
      exact ⟨p, rfl, r, z⟩
    · rw [List.getElem?_set_ne (Ne.symm q)] at hs'
      dsimp only
      rw [List.getElem?_set_ne (Ne.symm q), if_neg q]
      exact h1 j s hs'
  · dsimp only at hx
    by_cases q : j = i
    · rw [if_pos q] at hx
      exact dj x hm hx
    · rw [if_neg q] at hx
      have hs' : (ρ.sl.set i (.own o))[j]? = some (.own o') := hs
      rw [List.getElem?_set_ne (Ne.symm q)] at hs'
      exact h2 j o' hs' x hx (List.mem_append_right _ hm)
  · have go : ∀ {l : Nat} {w : OD}, l ≠ i → (ρ.sl.set i (.own o))[l]? = some (.own w) → ρ.sl[l]? = some (.own w) := fun {l w} q hs' => by
      rw [List.getElem?_set_ne (Ne.symm q)] at hs'
      exact hs'
    by_cases qj : j = i
    · have qk : k ≠ i := fun w => ne (qj.trans w.symm)
      dsimp only
      rw [if_pos qj, if_neg qk]
      intro x hx hk'
      exact h2 k u (go qk hk) x hk' (List.mem_append_left _ hx)
    · dsimp only
      rw [if_neg qj]
      by_cases qk : k = i
      · rw [if_pos qk]
        exact fun x hx hm => h2 j o' (go qj hj) x hx (List.mem_append_left _ hm)
      · rw [if_neg qk]
        exact h3 j k o' u (go qj hj) (go qk hk) ne
def dSet (i : Nat) (te : TEd) : TSd := fun D ρ => te ρ fun x ρ1 => D.nx ⟨ρ1.sl.set i (.d x), ρ1.pa⟩
def dSetO (i : Nat) (te : TOd) : TSd := fun D ρ => te ρ fun o ρ1 => D.nx ⟨ρ1.sl.set i (.own o), ρ1.pa⟩
theorem ds_set (i : Nat) {x : Str} {pos' : Pos} (he : PEd X G e te) (hN : X.N.Nodup) (hi : X.N[i]? = some x := by rfl) (hx : Loc X.env.scope x := by first | exact Or.inl rfl | exact Or.inr rfl) (hs : swapsWith e (some (.Name x pos')) pos.line X.env = pure false := by rfl)
    (hf : X.fn x = true ∨ X.env.scope.names.lookup x = some .local := by first | exact .inl rfl | exact .inr rfl | assumption) : PSd X G (.Assign [.Name x pos'] e pos) (dSet i te) := by
  obtain ⟨w, a1, a2⟩ := he
  refine ⟨_, ps_set hN hi hx a1 hs hf, fun B F H σ ρ Dd D' S q k => a2 B [] F H σ ρ _ _ S q ?_⟩
  rintro v H1 ⟨F1, d, ρ1, s1, S1, r1, q1⟩
  exact k.nx _ _ ⟨F1, _, s1, S1.set i r1, q1⟩
theorem ds_setO (i : Nat) {x : Str} {pos' : Pos} {to : TOd} (he : POd X G e to) (hN : X.N.Nodup) (hi : X.N[i]? = some x := by rfl) (hx : Loc X.env.scope x := by first | exact Or.inl rfl | exact Or.inr rfl) (hs : swapsWith e (some (.Name x pos')) pos.line X.env = pure false := by rfl)
    (hf : X.fn x = true ∨ X.env.scope.names.lookup x = some .local := by first | exact .inl rfl | exact .inr rfl | assumption) : PSd X G (.Assign [.Name x pos'] e pos) (dSetO i to) := by
  obtain ⟨w, a1, a2⟩ := he
  refine ⟨_, ps_set hN hi hx a1 hs hf, fun B F H σ ρ Dd D' S q k => a2 B [] F H σ ρ _ _ S q ?_⟩
  rintro v H1 ⟨F1, p, fp, o, ρ1, s1, S1, ev, r1, z1, dj, q1⟩
  subst ev
  exact k.nx _ _ ⟨F1, _, s1, S1.setO i r1 z1 dj, q1⟩
end
end DL

/-! text DLd -/
set_option Elab.async false
set_option linter.all false
set_option maxRecDepth 100000
set_option maxHeartbeats 4000000
namespace DL
open PySem PySem.Spec PyProof.Rows L2
/-! ### data that == reads -/
mutual
def D.py : D → PyData
  | .non => .none
  | .bl b => .bool b
  | .int i => .int i
  | .str s => .str s
  | .lst l => .list (pyL l)
  | .tup l => .tuple (pyL l)
  | .ty _ => .none | .cls _ => .none | .dic _ => .none | .ins _ _ => .none | .scr _ => .none
def pyL : List D → List PyData
  | [] => []
  | d :: ds => d.py :: pyL ds
end
mutual
/-- plain data, at most n deep -/
def D.sh : D → Nat → Bool
  | .non, _ => true
  | .bl _, _ => true
  | .int _, _ => true
  | .str s, _ => PyData.strOk s
  | .lst l, n + 1 => shL l n
  | .tup l, n + 1 => shL l n
  | _, _ => false
def shL : List D → Nat → Bool
  | [], _ => true
  | d :: ds, n => d.sh n && shL ds n
end
mutual
/-- == of data -/
def eqD : D → D → Bool
  | .non, .non => true
  | .bl a, .bl b => a == b
  | .bl a, .int j => (if a then 1 else 0) == j
  | .int i, .bl b => i == (if b then 1 else 0)
  | .int i, .int j => decide (i = j)
  | .str x, .str y => decide (x = y)
  | .lst xs, .lst ys => eqDL xs ys
  | .tup xs, .tup ys => eqDL xs ys
  | _, _ => false
def eqDL : List D → List D → Bool
  | [], [] => true
  | x :: xs, y :: ys => eqD x y && eqDL xs ys
  | _, _ => false
end
theorem pyL_map : ∀ l : List D, pyL l = l.map D.py
  | [] => rfl
  | d :: l => by simp only [pyL, pyL_map l, List.map_cons]
mutual
theorem eqD_py : ∀ x y : D, (∃ n, x.sh n = true) → (∃ n, y.sh n = true) → PyData.eqv x.py y.py = eqD x y
  | .non, y, _, hy => by cases y <;> simp_all [D.py, eqD, PyData.eqv, D.sh]
  | .bl a, y, _, hy => by cases y <;> simp_all [D.py, eqD, PyData.eqv, D.sh]
  | .int i, y, _, hy => by
    cases y <;> simp_all [D.py, eqD, PyData.eqv, D.sh]
    all_goals (rw [Bool.eq_iff_iff]; simp)
  | .str s, y, _, hy => by
    cases y <;> simp_all [D.py, eqD, PyData.eqv, D.sh]
    all_goals (rw [Bool.eq_iff_iff]; simp)
  | .lst l, y, ⟨n, hx⟩, ⟨m, hy⟩ => by
    cases y with
    | lst k =>
      cases n with
      | zero => simp [D.sh] at hx
      | succ n =>
        cases m with
        | zero => simp [D.sh] at hy
        | succ m =>
          simp only [D.py, PyData.eqv, eqD]
          exact eqDL_py l k ⟨n, by simpa [D.sh] using hx⟩ ⟨m, by simpa [D.sh] using hy⟩
    | _ => simp_all [D.py, eqD, PyData.eqv, D.sh]
  | .tup l, y, ⟨n, hx⟩, ⟨m, hy⟩ => by
    cases y with
    | tup k =>
      cases n with
      | zero => simp [D.sh] at hx
      | succ n =>
        cases m with
        | zero => simp [D.sh] at hy
        | succ m =>
          simp only [D.py, PyData.eqv, eqD]
          exact eqDL_py l k ⟨n, by simpa [D.sh] using hx⟩ ⟨m, by simpa [D.sh] using hy⟩
    | _ => simp_all [D.py, eqD, PyData.eqv, D.sh]
  | .ty _, _, ⟨_, h⟩, _ => by simp [D.sh] at h
  | .cls _, _, ⟨_, h⟩, _ => by simp [D.sh] at h
  | .dic _, _, ⟨_, h⟩, _ => by simp [D.sh] at h
  | .ins _ _, _, ⟨_, h⟩, _ => by simp [D.sh] at h
theorem eqDL_py : ∀ xs ys : List D, (∃ n, shL xs n = true) → (∃ n, shL ys n = true) → PyData.eqvAll (pyL xs) (pyL ys) = eqDL xs ys
  | [], [], _, _ => by simp [pyL, eqDL, PyData.eqvAll]
  | [], _ :: _, _, _ => by simp [pyL, eqDL, PyData.eqvAll]
  | _ :: _, [], _, _ => by simp [pyL, eqDL, PyData.eqvAll]
  | x :: xs, y :: ys, ⟨n, h⟩, ⟨m, k⟩ => by
    simp only [shL, Bool.and_eq_true] at h k
    simp only [pyL, eqDL, PyData.eqvAll, eqD_py x y ⟨n, h.1⟩ ⟨m, k.1⟩, eqDL_py xs ys ⟨n, h.2⟩ ⟨m, k.2⟩]
end
mutual
theorem sh_lay : ∀ (x : D) (n : Nat), x.sh n = true → x.py.canLay0 = true ∧ x.py.depth ≤ n
  | .non, n, _ => by simp [D.py, PyData.canLay0, PyData.depth]
  | .bl _, n, _ => by simp [D.py, PyData.canLay0, PyData.depth]
  | .int _, n, _ => by simp [D.py, PyData.canLay0, PyData.depth]
  | .str s, n, h => by simpa [D.py, PyData.canLay0, PyData.depth, D.sh] using h
  | .lst l, n + 1, h => by
    have q := shL_lay l n (by simpa [D.sh] using h)
    simp only [D.py, PyData.canLay0, PyData.depth]
    exact ⟨q.1, by omega⟩
  | .tup l, n + 1, h => by
    have q := shL_lay l n (by simpa [D.sh] using h)
    simp only [D.py, PyData.canLay0, PyData.depth]
    exact ⟨q.1, by omega⟩
  | .lst l, 0, h => by simp [D.sh] at h
  | .tup l, 0, h => by simp [D.sh] at h
  | .ty _, _, h => by simp [D.sh] at h
  | .cls _, _, h => by simp [D.sh] at h
  | .dic _, _, h => by simp [D.sh] at h
  | .ins _ _, _, h => by simp [D.sh] at h
theorem shL_lay : ∀ (x : List D) (n : Nat), shL x n = true → PyData.canLayAll0 (pyL x) = true ∧ PyData.depthAll (pyL x) ≤ n
  | [], n, _ => by simp [pyL, PyData.canLayAll0, PyData.depthAll]
  | d :: l, n, h => by
    simp only [shL, Bool.and_eq_true] at h
    have q := sh_lay d n h.1
    have r := shL_lay l n h.2
    simp only [pyL, PyData.canLayAll0, PyData.depthAll, q.1, r.1, Bool.and_self, true_and]
    omega
end
theorem sh_shaped {x : D} (h : x.sh 64 = true) : SeqAt.shaped x.py = true := by
  obtain ⟨h1, h2⟩ := sh_lay x 64 h
  unfold SeqAt.shaped
  rw [h1, decide_eq_true h2]
  rfl
mutual
theorem sh_mono : ∀ (x : D) (n m : Nat), n ≤ m → x.sh n = true → x.sh m = true
  | .non, _, _, _, _ => by simp [D.sh]
  | .bl _, _, _, _, _ => by simp [D.sh]
  | .int _, _, _, _, _ => by simp [D.sh]
  | .str s, _, _, _, h => by simpa [D.sh] using h
  | .lst l, n + 1, m + 1, h, q => by simp only [D.sh] at q ⊢; exact shL_mono l n m (by omega) q
  | .tup l, n + 1, m + 1, h, q => by simp only [D.sh] at q ⊢; exact shL_mono l n m (by omega) q
  | .lst l, 0, _, _, h => by simp [D.sh] at h
  | .tup l, 0, _, _, h => by simp [D.sh] at h
  | .lst l, n + 1, 0, h, _ => absurd h (by omega)
  | .tup l, n + 1, 0, h, _ => absurd h (by omega)
  | .ty _, _, _, _, h => by simp [D.sh] at h
  | .cls _, _, _, _, h => by simp [D.sh] at h
  | .dic _, _, _, _, h => by simp [D.sh] at h
  | .ins _ _, _, _, _, h => by simp [D.sh] at h
theorem shL_mono : ∀ (x : List D) (n m : Nat), n ≤ m → shL x n = true → shL x m = true
  | [], _, _, _, _ => by simp [shL]
  | d :: l, n, m, h, q => by
    simp only [shL, Bool.and_eq_true] at q ⊢
    exact ⟨sh_mono d n m h q.1, shL_mono l n m h q.2⟩
end
theorem shL_all {n : Nat} : ∀ {l : List D}, (∀ x ∈ l, x.sh n = true) → shL l n = true
  | [], _ => by simp [shL]
  | d :: l, h => by
    simp only [shL, Bool.and_eq_true]
    exact ⟨h d (by simp), shL_all fun x hx => h x (by simp [hx])⟩
theorem shL_ints (l : List Int) (n : Nat) : shL (l.map D.int) n = true := shL_all fun x hx => by
  obtain ⟨i, _, rfl⟩ := List.mem_map.mp hx
  simp [D.sh]
theorem eqDL_ints : ∀ l k : List Int, eqDL (l.map D.int) (k.map D.int) = decide (l = k)
  | [], [] => by simp [eqDL]
  | [], _ :: _ => by simp [eqDL]
  | _ :: _, [] => by simp [eqDL]
  | x :: xs, y :: ys => by
    simp only [List.map_cons, eqDL, eqD, eqDL_ints xs ys]
    by_cases h : x = y <;> by_cases k : xs = ys <;> simp [h, k]
section
variable {K : PySem.W.Frag} {F H : Hp}
theorem At.sql {a : Addr} {ds : List D} (h : At K F (.ref a) (.lst ds)) (s : Same F H) : ∃ vs, SqL K H a vs ∧ H a = some (.lst vs) ∧ AtL K F vs ds := by
  cases h with
  | lst e r => exact ⟨_, SqL.of (s _ _ e), s _ _ e, r⟩
theorem At.sqt {a : Addr} {ds : List D} (h : At K F (.ref a) (.tup ds)) (s : Same F H) : ∃ vs, SqT K H a vs ∧ AtL K F vs ds := by
  cases h with
  | tup e r => exact ⟨_, sqt_same s e, r⟩
mutual
theorem At.dp (s : Same F H) : ∀ (d : D) (v : V) (n : Nat), d.sh n = true → At K F v d → Dp K H v d.py
  | .non, _, _, _, .non => .non
  | .bl b, _, _, _, .bl _ => .bl b
  | .int b, _, _, _, .int _ => .int b
  | .str b, _, _, _, .str _ => .str b
  | .lst l, _, n + 1, h, .lst e r => by
    simp only [D.py]
    exact .lst (SqL.of (s _ _ e)) (AtL.dp s l _ n (by simpa [D.sh] using h) r)
  | .tup l, _, n + 1, h, .tup e r => by
    simp only [D.py]
    exact .tup (sqt_same s e) (AtL.dp s l _ n (by simpa [D.sh] using h) r)
  | .lst l, _, 0, h, _ => by simp [D.sh] at h
  | .tup l, _, 0, h, _ => by simp [D.sh] at h
  | .ty _, _, _, h, _ => by simp [D.sh] at h
  | .cls _, _, _, h, _ => by simp [D.sh] at h
  | .dic _, _, _, h, _ => by simp [D.sh] at h
  | .ins _ _, _, _, h, _ => by simp [D.sh] at h
theorem AtL.dp (s : Same F H) : ∀ (d : List D) (v : List V) (n : Nat), shL d n = true → AtL K F v d → DpAll K H v (pyL d)
  | [], _, _, _, .nil => by simp only [pyL]; exact .nil
  | d :: l, _, n, h, .cons r q => by
    simp only [pyL]
    simp only [shL, Bool.and_eq_true] at h
    exact .cons (At.dp s d _ n h.1 r) (AtL.dp s l _ n h.2 q)
end
end
def scalD : D → D → Bool
  | .non, .non => true | .non, .int _ => true | .int _, .non => true | .non, .bl _ => true | .bl _, .non => true | .non, .str _ => true | .str _, .non => true
  | .int _, .int _ => true | .bl _, .bl _ => true | .str _, .str _ => true
  | .int _, .str _ => true | .str _, .int _ => true | .bl _, .str _ => true | .str _, .bl _ => true
  | _, _ => false
theorem scal_at {K : PySem.W.Frag} {F : Hp} {x y : V} {d e : D} (r : At K F x d) (q : At K F y e) (h : scalD d e = true) : scal x y = true ∧ decide (x = y) = eqD d e := by
  cases r <;> cases q <;> simp_all [scalD, scal, eqD]
  all_goals (rw [Bool.eq_iff_iff]; simp)

/-! ### the operators -/
section
variable {X : Cx} {K : PySem.W.Frag}
theorem OpRd.or {f : Value → Value → Sem Value} {r r' : R2d} (h : OpRd X K f r) (h' : OpRd X K f r') : OpRd X K f (fun x y Q => r x y Q ∨ r' x y Q) := by
  obtain ⟨u, a1, a2⟩ := h
  obtain ⟨w, b1, b2⟩ := h'
  refine ⟨fun x y H Q => u x y H Q ∨ w x y H Q, fun pins s σ H x y v z Q I rx ry q => ?_, fun F H x y dx dy Q Qd s r q z k => ?_⟩
  · rcases q with q | q
    · exact a1 pins s σ H x y v z Q I rx ry q
    · exact b1 pins s σ H x y v z Q I rx ry q
  · rcases z with z | z
    · exact .inl (a2 F H x y dx dy Q Qd s r q z k)
    · exact .inr (b2 F H x y dx dy Q Qd s r q z k)
theorem OpRd.imp {f : Value → Value → Sem Value} {r r' : R2d} (h : OpRd X K f r) (i : ∀ x y Q, r' x y Q → r x y Q) : OpRd X K f r' := by
  obtain ⟨u, a1, a2⟩ := h
  exact ⟨u, a1, fun F H x y dx dy Q Qd s r q z k => a2 F H x y dx dy Q Qd s r q (i _ _ _ z) k⟩
/-- two ints, under a condition, give an int -/
theorem opd_int {f : Value → Value → Sem Value} {C : Int → Int → Prop} {g : Int → Int → Int} (h : OpR X f (rI C fun i j => .int (g i j))) : OpRd X K f (fun x y Q => ∃ i j, x = .int i ∧ y = .int j ∧ C i j ∧ Q (.int (g i j))) := by
  refine ⟨_, h, fun F H x y dx dy Q Qd s r q z k => ?_⟩
  obtain ⟨i, j, rfl, rfl, hc, qd⟩ := z
  cases r
  cases q
  exact ⟨i, j, rfl, rfl, hc, k _ _ _ _ (Grow.refl s) (.int _) qd⟩
theorem opd_int0 {f : Value → Value → Sem Value} {g : Int → Int → Int} (h : OpR X f (rI0 fun i j => .int (g i j))) : OpRd X K f (fun x y Q => ∃ i j, x = .int i ∧ y = .int j ∧ Q (.int (g i j))) := by
  refine ⟨_, h, fun F H x y dx dy Q Qd s r q z k => ?_⟩
  obtain ⟨i, j, rfl, rfl, qd⟩ := z
  cases r
  cases q
  exact ⟨i, j, rfl, rfl, k _ _ _ _ (Grow.refl s) (.int _) qd⟩
theorem opd_cmp0 {f : Value → Value → Sem Value} {g : Int → Int → Bool} (h : OpR X f (rI0 fun i j => .bl (g i j))) : OpRd X K f (fun x y Q => ∃ i j, x = .int i ∧ y = .int j ∧ Q (.bl (g i j))) := by
  refine ⟨_, h, fun F H x y dx dy Q Qd s r q z k => ?_⟩
  obtain ⟨i, j, rfl, rfl, qd⟩ := z
  cases r
  cases q
  exact ⟨i, j, rfl, rfl, k _ _ _ _ (Grow.refl s) (.bl _) qd⟩
def oAdd : R2d := fun x y Q => match x, y with
  | .int i, .int j => Q (.int (i + j))
  | .str a, .str b => a.length + b.length ≤ sizeLine ∧ Q (.str (a ++ b))
  | .lst a, .lst b => a.length + b.length ≤ sizeLine ∧ Q (.lst (a ++ b))
  | .tup a, .tup b => a.length + b.length ≤ sizeLine ∧ Q (.tup (a ++ b))
  | _, _ => False
theorem opd_addS : OpRd X K (binaryOp .Add) (fun x y Q => ∃ a b, x = .str a ∧ y = .str b ∧ a.length + b.length ≤ sizeLine ∧ Q (.str (a ++ b))) := by
  refine ⟨_, op_add_str, fun F H x y dx dy Q Qd s r q z k => ?_⟩
  obtain ⟨i, j, rfl, rfl, hl, qd⟩ := z
  cases r
  cases q
  exact ⟨i, j, rfl, rfl, hl, k _ _ _ _ (Grow.refl s) (.str _) qd⟩
theorem opd_addL : OpRd X K (binaryOp .Add) (fun x y Q => ∃ a b, x = .lst a ∧ y = .lst b ∧ a.length + b.length ≤ sizeLine ∧ Q (.lst (a ++ b))) := by
  refine ⟨_, op_cat, fun F H x y dx dy Q Qd s r q z k => ?_⟩
  obtain ⟨i, j, rfl, rfl, hl, qd⟩ := z
  cases r with
  | lst e r =>
    cases q with
    | lst e' q =>
      rw [← r.length, ← q.length] at hl
      refine ⟨_, _, _, _, rfl, rfl, s _ _ e, s _ _ e', hl, fun p hp => k _ _ _ _ (Grow.new s hp) (.lst upd_same ?_) qd⟩
      exact (r.append q).mono (same_new (s.free hp))
theorem opd_addT (hK : K = X.K := by rfl) : OpRd X K (binaryOp .Add) (fun x y Q => ∃ a b, x = .tup a ∧ y = .tup b ∧ a.length + b.length ≤ sizeLine ∧ Q (.tup (a ++ b))) := by
  subst hK
  refine ⟨_, op_catA, fun F H x y dx dy Q Qd s r q z k => ?_⟩
  obtain ⟨i, j, rfl, rfl, hl, qd⟩ := z
  cases r with
  | tup e r =>
    cases q with
    | tup e' q =>
      rw [← r.length, ← q.length] at hl
      refine ⟨_, _, _, _, rfl, rfl, sqt_same s e, sqt_same s e', hl, fun h => ?_, fun h h' => ?_, fun h h' p hp => ?_⟩
      · subst h
        cases r
        exact k _ _ _ _ (Grow.refl s) (.tup e' q) qd
      · subst h'
        cases q
        rw [List.append_nil] at qd
        exact k _ _ _ _ (Grow.refl s) (.tup e r) qd
      · exact k _ _ _ _ (Grow.new s hp) (.tup (SqT.of upd_same) ((r.append q).mono (same_new (s.free hp)))) qd
theorem o_add (hK : K = X.K := by rfl) : OpRd X K (binaryOp .Add) oAdd := by
  refine ((opd_int0 op_add).or (opd_addS.or (opd_addL.or (opd_addT hK)))).imp fun x y Q q => ?_
  unfold oAdd at q
  split at q
  · exact .inl ⟨_, _, rfl, rfl, q⟩
  · exact .inr (.inl ⟨_, _, rfl, rfl, q.1, q.2⟩)
  · exact .inr (.inr (.inl ⟨_, _, rfl, rfl, q.1, q.2⟩))
  · exact .inr (.inr (.inr ⟨_, _, rfl, rfl, q.1, q.2⟩))
  · exact q.elim
def oSub : R2d := fun x y Q => match x, y with
  | .int i, .int j => Q (.int (i - j))
  | _, _ => False
theorem o_sub : OpRd X K (binaryOp .Sub) oSub := (opd_int0 op_sub).imp fun x y Q q => by
  unfold oSub at q
  split at q
  · exact ⟨_, _, rfl, rfl, q⟩
  · exact q.elim
/-- a factor is below 2^64, or both are below a million bits together -/
def MulOk (i j : Int) : Prop := CMul i j ∨ CMulW i j
def oMul : R2d := fun x y Q => match x, y with
  | .int i, .int j => MulOk i j ∧ Q (.int (i * j))
  | .lst a, .int k => a.length ≤ 1000 ∧ -1000 ≤ k ∧ k ≤ 1000 ∧ Q (.lst (List.replicate k.toNat a).flatten)
  | _, _ => False
theorem o_mul : OpRd X K (binaryOp .Mult) oMul := by
  have rep : OpRd X K (binaryOp .Mult) (fun x y Q => ∃ a k, x = .lst a ∧ y = .int k ∧ a.length ≤ 1000 ∧ -1000 ≤ k ∧ k ≤ 1000 ∧ Q (.lst (List.replicate k.toNat a).flatten)) := by
    refine ⟨_, op_rep, fun F H x y dx dy Q Qd s r q z k => ?_⟩
    obtain ⟨a, j, rfl, rfl, h1, h2, h3, qd⟩ := z
    cases q
    cases r with
    | lst e r =>
      have hl := r.length
      refine ⟨_, _, _, rfl, rfl, s _ _ e, by omega, by omega, ?_, fun p hp => k _ _ _ _ (Grow.new s hp) (.lst upd_same ?_) qd⟩
      · rw [hl]
        have : j.toNat ≤ 1000 := by omega
        have := Nat.mul_le_mul h1 this
        rw [sizeLine_eq]
        omega
      · have go : ∀ n : Nat, AtL K F (List.replicate n _).flatten (List.replicate n a).flatten := fun n => by
          induction n with
          | zero => exact .nil
          | succ n ih => rw [List.replicate_succ, List.flatten_cons, List.replicate_succ, List.flatten_cons]; exact r.append ih
        exact (go _).mono (same_new (s.free hp))
  refine ((opd_int op_mul).or ((opd_int op_mulW).or rep)).imp fun x y Q q => ?_
  unfold oMul at q
  split at q
  · rcases q.1 with h | h
    · exact .inl ⟨_, _, rfl, rfl, h, q.2⟩
    · exact .inr (.inl ⟨_, _, rfl, rfl, h, q.2⟩)
  · exact .inr (.inr ⟨_, _, rfl, rfl, q.1, q.2.1, q.2.2.1, q.2.2.2⟩)
  · exact q.elim
def oDiv : R2d := fun x y Q => match x, y with
  | .int i, .int j => CDivW i j ∧ Q (.int (i / j))
  | _, _ => False
theorem o_div : OpRd X K (binaryOp .FloorDiv) oDiv := (opd_int op_fdivW).imp fun x y Q q => by
  unfold oDiv at q
  split at q
  · exact ⟨_, _, rfl, rfl, q.1, q.2⟩
  · exact q.elim
def oMod : R2d := fun x y Q => match x, y with
  | .int i, .int j => 0 < j ∧ Q (.int (i % j))
  | _, _ => False
theorem o_mod : OpRd X K (binaryOp .Mod) oMod := (opd_int op_mod).imp fun x y Q q => by
  unfold oMod at q
  split at q
  · exact ⟨_, _, rfl, rfl, q.1, q.2⟩
  · exact q.elim
def oPow : R2d := fun x y Q => match x, y with
  | .int i, .int j => CPow i j ∧ Q (.int (i ^ j.toNat))
  | _, _ => False
theorem o_pow : OpRd X K (binaryOp .Pow) oPow := (opd_int op_pow).imp fun x y Q q => by
  unfold oPow at q
  split at q
  · exact ⟨_, _, rfl, rfl, q.1, q.2⟩
  · exact q.elim
def oLt : R2d := fun x y Q => match x, y with
  | .int i, .int j => Q (.bl (decide (i < j)))
  | _, _ => False
def oLe : R2d := fun x y Q => match x, y with
  | .int i, .int j => Q (.bl (decide (i ≤ j)))
  | _, _ => False
def oGt : R2d := fun x y Q => match x, y with
  | .int i, .int j => Q (.bl (decide (j < i)))
  | _, _ => False
def oGe : R2d := fun x y Q => match x, y with
  | .int i, .int j => Q (.bl (decide (j ≤ i)))
  | _, _ => False
theorem o_lt : OpRd X K (compareOp .Lt) oLt := (opd_cmp0 op_lt).imp fun x y Q q => by
  unfold oLt at q
  split at q
  · exact ⟨_, _, rfl, rfl, q⟩
  · exact q.elim
theorem o_le : OpRd X K (compareOp .LtE) oLe := (opd_cmp0 op_le).imp fun x y Q q => by
  unfold oLe at q
  split at q
  · exact ⟨_, _, rfl, rfl, q⟩
  · exact q.elim
theorem o_gt : OpRd X K (compareOp .Gt) oGt := (opd_cmp0 op_gt).imp fun x y Q q => by
  unfold oGt at q
  split at q
  · exact ⟨_, _, rfl, rfl, q⟩
  · exact q.elim
theorem o_ge : OpRd X K (compareOp .GtE) oGe := (opd_cmp0 op_ge).imp fun x y Q q => by
  unfold oGe at q
  split at q
  · exact ⟨_, _, rfl, rfl, q⟩
  · exact q.elim
def eqOk (x y : D) : Bool := scalD x y || (x.sh 64 && y.sh 64)
def oEq : R2d := fun x y Q => eqOk x y = true ∧ Q (.bl (eqD x y))
def oNe : R2d := fun x y Q => eqOk x y = true ∧ Q (.bl (!eqD x y))
theorem o_eq (hu : X.A.units + 64 < cLine) (hK : K = X.K := by rfl) : OpRd X K (compareOp .Eq) oEq := by
  subst hK
  have h1 : OpRd X X.K (compareOp .Eq) (fun x y Q => scalD x y = true ∧ Q (.bl (eqD x y))) := by
    refine ⟨_, op_eq, fun F H x y dx dy Q Qd s r q z k => ?_⟩
    obtain ⟨e1, e2⟩ := scal_at r q z.1
    exact ⟨e1, by rw [e2]; exact k _ _ _ _ (Grow.refl s) (.bl _) z.2⟩
  have h2 : OpRd X X.K (compareOp .Eq) (fun x y Q => (x.sh 64 = true ∧ y.sh 64 = true) ∧ Q (.bl (eqD x y))) := by
    refine ⟨_, op_eqD hu, fun F H x y dx dy Q Qd s r q z k => ?_⟩
    refine ⟨_, _, r.dp s _ _ 64 z.1.1, q.dp s _ _ 64 z.1.2, sh_shaped z.1.1, sh_shaped z.1.2, ?_⟩
    rw [eqD_py _ _ ⟨_, z.1.1⟩ ⟨_, z.1.2⟩]
    exact k _ _ _ _ (Grow.refl s) (.bl _) z.2
  refine (h1.or h2).imp fun x y Q q => ?_
  have q1 := q.1
  unfold eqOk at q1
  rw [Bool.or_eq_true, Bool.and_eq_true] at q1
  rcases q1 with q1 | q1
  · exact .inl ⟨q1, q.2⟩
  · exact .inr ⟨q1, q.2⟩
theorem o_ne (hu : X.A.units + 64 < cLine) (hK : K = X.K := by rfl) : OpRd X K (compareOp .NotEq) oNe := by
  subst hK
  have h1 : OpRd X X.K (compareOp .NotEq) (fun x y Q => scalD x y = true ∧ Q (.bl (!eqD x y))) := by
    refine ⟨_, op_ne, fun F H x y dx dy Q Qd s r q z k => ?_⟩
    obtain ⟨e1, e2⟩ := scal_at r q z.1
    exact ⟨e1, by rw [e2]; exact k _ _ _ _ (Grow.refl s) (.bl _) z.2⟩
  have h2 : OpRd X X.K (compareOp .NotEq) (fun x y Q => (x.sh 64 = true ∧ y.sh 64 = true) ∧ Q (.bl (!eqD x y))) := by
    refine ⟨_, op_neD hu, fun F H x y dx dy Q Qd s r q z k => ?_⟩
    refine ⟨_, _, r.dp s _ _ 64 z.1.1, q.dp s _ _ 64 z.1.2, sh_shaped z.1.1, sh_shaped z.1.2, ?_⟩
    rw [eqD_py _ _ ⟨_, z.1.1⟩ ⟨_, z.1.2⟩]
    exact k _ _ _ _ (Grow.refl s) (.bl _) z.2
  refine (h1.or h2).imp fun x y Q q => ?_
  have q1 := q.1
  unfold eqOk at q1
  rw [Bool.or_eq_true, Bool.and_eq_true] at q1
  rcases q1 with q1 | q1
  · exact .inl ⟨q1, q.2⟩
  · exact .inr ⟨q1, q.2⟩
def isNon : D → Bool
  | .non => true
  | _ => false
def oIs : R2d := fun x y Q => match y with
  | .non => Q (.bl (isNon x))
  | _ => False
def oIsNot : R2d := fun x y Q => match y with
  | .non => Q (.bl (!isNon x))
  | _ => False
theorem isNon_at {F : Hp} {x : V} {d : D} (r : At K F x d) : decide (x = .non) = isNon d := by
  cases r <;> simp [isNon]
theorem o_is : OpRd X K (compareOp .Is) oIs := by
  refine ⟨_, op_isN, fun F H x y dx dy Q Qd s r q z k => ?_⟩
  unfold oIs at z
  split at z
  · cases q
    exact ⟨rfl, by rw [isNon_at r]; exact k _ _ _ _ (Grow.refl s) (.bl _) z⟩
  · exact z.elim
theorem o_isnot : OpRd X K (compareOp .IsNot) oIsNot := by
  refine ⟨_, op_notN, fun F H x y dx dy Q Qd s r q z k => ?_⟩
  unfold oIsNot at z
  split at z
  · cases q
    exact ⟨rfl, by rw [isNon_at r]; exact k _ _ _ _ (Grow.refl s) (.bl _) z⟩
  · exact z.elim
def flatD : D → Bool
  | .non => true
  | .bl _ => true
  | .int _ => true
  | .str _ => true
  | _ => false
theorem flat_at {F : Hp} {x : V} {d : D} (r : At K F x d) (h : flatD d = true) : flatV x = true := by
  cases r <;> simp_all [flatD, flatV]
theorem flat_eq {F : Hp} {x y : V} {d e : D} (r : At K F x d) (q : At K F y e) (h : flatD d = true) (h' : flatD e = true) : eqV x y = eqD d e := by
  cases r <;> cases q <;> simp_all [flatD, eqV, eqD]
  all_goals (rw [Bool.eq_iff_iff]; simp)
def inD (x : D) (l : List D) : Bool := l.any fun y => eqD y x
theorem flat_all {F : Hp} : ∀ {vs : List V} {l : List D}, AtL K F vs l → l.all flatD = true → vs.all flatV = true
  | _, _, .nil, _ => rfl
  | _, _, .cons r q, h => by
    simp only [List.all_cons, Bool.and_eq_true] at h ⊢
    exact ⟨flat_at r h.1, flat_all q h.2⟩
theorem in_at {F : Hp} {x : V} {d : D} (r : At K F x d) (h : flatD d = true) : ∀ {vs : List V} {l : List D}, AtL K F vs l → l.all flatD = true → inV x vs = inD d l
  | _, _, .nil, _ => rfl
  | _, _, .cons q t, h' => by
    simp only [List.all_cons, Bool.and_eq_true] at h'
    have e := in_at r h t h'.2
    unfold inV inD at e ⊢
    rw [List.any_cons, List.any_cons, e, flat_eq q r h'.1 h]
def oInF (neg : Bool) : R2d := fun x y Q => ∃ l, (y = .lst l ∨ y = .tup l) ∧ (flatD x = true ∧ l.all flatD = true) ∧ Q (.bl (if neg then !inD x l else inD x l))
theorem snd_in (neg : Bool) {F H : Hp} {x y : V} {dx dy : D} {Q : VK} {Qd : D → Prop} (s : Same F H) (r : At X.K F x dx) (q : At X.K F y dy) (z : oInF neg dx dy Qd)
    (k : ∀ v F' H' d, Grow F H F' H' → At X.K F' v d → Qd d → Q v H') : rIn X.K neg x y H Q := by
  obtain ⟨l, hl, ⟨f1, f2⟩, qd⟩ := z
  obtain ⟨p, vs, rfl, hv, ra⟩ : ∃ p vs, y = .ref p ∧ (SqL X.K H p vs ∨ SqT X.K H p vs) ∧ AtL X.K F vs l := by
    rcases hl with rfl | rfl
    · cases q with
      | lst e q => exact ⟨_, _, rfl, .inl (SqL.of (s _ _ e)), q⟩
    · cases q with
      | tup e q => exact ⟨_, _, rfl, .inr (sqt_same s e), q⟩
  refine ⟨p, vs, rfl, hv, flat_at r f1, flat_all ra f2, ?_⟩
  rw [in_at r f1 ra f2]
  exact k _ _ _ _ (Grow.refl s) (.bl _) qd
theorem any_py {x : D} {n : Nat} (h : x.sh n = true) : ∀ {l : List D}, shL l n = true → ((pyL l).any fun z => PyData.eqv z x.py) = inD x l
  | [], _ => rfl
  | d :: l, h' => by
    simp only [shL, Bool.and_eq_true] at h'
    have e := any_py h h'.2
    unfold inD at e ⊢
    simp only [pyL, List.any_cons, e, eqD_py d x ⟨n, h'.1⟩ ⟨n, h⟩]
def okIn (x : D) (l : List D) : Bool := (flatD x && l.all flatD) || (x.sh 64 && shL l 63)
def oIn : R2d := fun x y Q => match y with
  | .lst l => okIn x l = true ∧ Q (.bl (inD x l))
  | .tup l => (flatD x = true ∧ l.all flatD = true) ∧ Q (.bl (inD x l))
  | _ => False
def oNotIn : R2d := fun x y Q => match y with
  | .lst l => okIn x l = true ∧ Q (.bl (!inD x l))
  | .tup l => (flatD x = true ∧ l.all flatD = true) ∧ Q (.bl (!inD x l))
  | _ => False
theorem o_in (hu : X.A.units + 65 < cLine) (hK : K = X.K := by rfl) : OpRd X K (compareOp .In) oIn := by
  subst hK
  have h1 : OpRd X X.K (compareOp .In) (oInF false) := ⟨_, op_in_seq, fun F H x y dx dy Q Qd s r q z k => snd_in false s r q z k⟩
  have h2 : OpRd X X.K (compareOp .In) (fun x y Q => ∃ l, y = .lst l ∧ (x.sh 64 = true ∧ shL l 63 = true) ∧ Q (.bl (inD x l))) := by
    refine ⟨_, op_inD hu, fun F H x y dx dy Q Qd s r q z k => ?_⟩
    obtain ⟨l, rfl, ⟨f1, f2⟩, qd⟩ := z
    have f3 : (D.lst l).sh 64 = true := by simpa [D.sh] using f2
    have q' := q.dp s _ _ 64 f3
    have sl := sh_shaped f3
    simp only [D.py] at q' sl
    refine ⟨_, _, r.dp s _ _ 64 f1, q', sh_shaped f1, sl, ?_⟩
    rw [any_py f1 (shL_mono l 63 64 (by omega) f2)]
    exact k _ _ _ _ (Grow.refl s) (.bl _) qd
  refine (h1.or h2).imp fun x y Q q => ?_
  unfold oIn at q
  split at q
  · have q1 := q.1
    unfold okIn at q1
    rw [Bool.or_eq_true, Bool.and_eq_true, Bool.and_eq_true] at q1
    rcases q1 with q1 | q1
    · exact .inl ⟨_, .inl rfl, q1, q.2⟩
    · exact .inr ⟨_, rfl, q1, q.2⟩
  · exact .inl ⟨_, .inr rfl, q.1, q.2⟩
  · exact q.elim
theorem o_notin (hu : X.A.units + 65 < cLine) (hK : K = X.K := by rfl) : OpRd X K (compareOp .NotIn) oNotIn := by
  subst hK
  have h1 : OpRd X X.K (compareOp .NotIn) (oInF true) := ⟨_, op_notIn_seq, fun F H x y dx dy Q Qd s r q z k => snd_in true s r q z k⟩
  have h2 : OpRd X X.K (compareOp .NotIn) (fun x y Q => ∃ l, y = .lst l ∧ (x.sh 64 = true ∧ shL l 63 = true) ∧ Q (.bl (!inD x l))) := by
    refine ⟨_, op_notInD hu, fun F H x y dx dy Q Qd s r q z k => ?_⟩
    obtain ⟨l, rfl, ⟨f1, f2⟩, qd⟩ := z
    have f3 : (D.lst l).sh 64 = true := by simpa [D.sh] using f2
    have q' := q.dp s _ _ 64 f3
    have sl := sh_shaped f3
    simp only [D.py] at q' sl
    refine ⟨_, _, r.dp s _ _ 64 f1, q', sh_shaped f1, sl, ?_⟩
    rw [any_py f1 (shL_mono l 63 64 (by omega) f2)]
    exact k _ _ _ _ (Grow.refl s) (.bl _) qd
  refine (h1.or h2).imp fun x y Q q => ?_
  unfold oNotIn at q
  split at q
  · have q1 := q.1
    unfold okIn at q1
    rw [Bool.or_eq_true, Bool.and_eq_true, Bool.and_eq_true] at q1
    rcases q1 with q1 | q1
    · exact .inl ⟨_, .inl rfl, q1, q.2⟩
    · exact .inr ⟨_, rfl, q1, q.2⟩
  · exact .inl ⟨_, .inr rfl, q.1, q.2⟩
  · exact q.elim
def oNeg : R1d := fun x Q => match x with
  | .int i => Q (.int (-i))
  | _ => False
theorem o_neg : UnRd X K (unaryOp .USub) oNeg := by
  refine ⟨_, un_neg, fun F H x dx Q Qd s r z k => ?_⟩
  unfold oNeg at z
  split at z
  · cases r
    exact ⟨_, rfl, k _ _ _ _ (Grow.refl s) (.int _) z⟩
  · exact z.elim
end
end DL

/-! text DLe -/
set_option Elab.async false
set_option linter.all false
set_option maxRecDepth 100000
set_option maxHeartbeats 4000000
namespace DL
open PySem PySem.Spec PyProof.Rows L2
/-! ### what a def promises, over data -/
structure Exn where
  C : Addr
  idx : Option D
def ExAt (K : PySem.W.Frag) (F H : Hp) (cls : Value) (d : Option Addr) (x : Exn) : Prop :=
  cls = .ref x.C ∧ (match x.idx with
    | none => d = none
    | some y => ∃ dd v, d = some dd ∧ F dd = some (.xd [(("index" : Str), v)]) ∧ At K F v y)
abbrev RXd := Exn → En → Prop
def wish (G : Gx) (RX : RXd) : WX := fun cls d σ H' => ∃ B F ρ x, Sr G B [] F H' σ ρ ∧ ExAt G.K F H' cls d x ∧ RX x ρ
abbrev Gd := List Sl → List OD → (Rv → List OD → Prop) → (Exn → List OD → Prop) → Prop
def SpD (K : PySem.W.Frag) (g : Gd) : Sp := fun vs H Q E =>
  ∃ (F B : Hp) (pa : List (Addr × List Addr)) (ps : List Sl) (π : List OD) (R : Rv → List OD → Prop) (RX : Exn → List OD → Prop),
    Sr ⟨K, F, H, B, pa⟩ B [] F H (vs.map some) ⟨ps, π⟩ ∧ g ps π R RX ∧
    (∀ v H', LRv ⟨K, F, H, B, pa⟩ B F (fun r ρ => R r ρ.pa) v H' → Q v H') ∧
    (∀ cls d σ H', wish ⟨K, F, H, B, pa⟩ (fun x ρ => RX x ρ.pa) cls d σ H' → E cls d H')
abbrev FnD (P : Program) (w : World) (K : PySem.W.Frag) (mg : Str → Option Value) (base : Heap) (k : Nat) (f : Addr) (fd : FuncData) (ps : List Str) (g : Gd) : Prop := FnOk P w K mg base (L2.CX P w) k f fd ps (SpD K g)
theorem FnD.imp {P : Program} {w : World} {K : PySem.W.Frag} {mg : Str → Option Value} {base : Heap} {k : Nat} {f : Addr} {fd : FuncData} {ps : List Str} {g g' : Gd} (F : FnD P w K mg base k f fd ps g) (h : ∀ qs π R RX, g' qs π R RX → g qs π R RX) : FnD P w K mg base k f fd ps g' :=
  FnOk.imp F fun vs H Q E ⟨F, B, pa, qs, π, R, RX, S, q, k1, k2⟩ => ⟨F, B, pa, qs, π, R, RX, S, h _ _ _ _ q, k1, k2⟩

/-- the slots at the entry -/
theorem Sr.entry {G : Gx} {B F H : Hp} {vs : List V} {ps : List Sl} {π : List OD} (S : Sr G B [] F H (vs.map some) ⟨ps, π⟩) (N : List Str) : Sr G B [] F H (L2.start N vs) ⟨ps ++ List.replicate (N.length - vs.length) .no, π⟩ := by
  obtain ⟨ad, h1, h2, h3⟩ := S.sl
  have hl : ps.length = vs.length := by have := S.len; simpa using this
  have go : ∀ {i : Nat} {s : Sl}, (ps ++ List.replicate (N.length - vs.length) Sl.no)[i]? = some s → s = .no ∨ (i < vs.length ∧ ps[i]? = some s) := fun {i s} h => by
    by_cases q : i < ps.length
    · rw [List.getElem?_append_left q] at h
      exact .inr ⟨by omega, h⟩
    · rw [List.getElem?_append_right (by omega), List.getElem?_replicate] at h
      split at h
      · cases h; exact .inl rfl
      · cases h
  refine ⟨S.f0, S.gb, S.fn, S.fh, S.bh, S.dom, by simp [L2.start, hl], fun x hx => absurd hx (by simp), S.pl, S.par, S.pf, S.pd, ad, fun i s hs => ?_, fun i o hs => ?_, fun i j o u hi hj => ?_⟩
  · rcases go hs with rfl | ⟨q, e⟩
    · trivial
    · have := h1 i s e
      unfold L2.start
      rw [List.getElem?_append_left (by simpa using q)]
      exact this
  · rcases go hs with e | ⟨q, e⟩
    · cases e
    · exact h2 i o e
  · rcases go hi with e | ⟨q, e⟩
    · cases e
    · rcases go hj with e' | ⟨q', e'⟩
      · cases e'
      · exact h3 i j o u e e'

/-- THE RULE for a def, over data -/
theorem fn_d {P : Program} {w : World} {K : PySem.W.Frag} {mg : Str → Option Value} {base : Heap} {x qual : Str} {st : Stmt} {f : Addr} {fd : FuncData} {N ps : List Str} {k n : Nat} {g : Gd} (F : Fun K x qual st f fd) (S : FnScope N ps (defScope st))
    (hl : ∀ qs π R RX, g qs π R RX → qs.length = ps.length) (hn : N.length - ps.length = n)
    (hb : ∀ (cdv : Value) (A : Around) (outer : List Env) (s : Shared) (H : Hp) (E : XK) (F B : Hp) (pa : List (Addr × List Addr)) (RX : Exn → List OD → Prop), Room k (A.deeper (envOfC qual (defScope st) s.heap.objs.size f cdv)) →
      Takes (cxOf (L2.CX P w) P w K mg base N qual (defScope st) f cdv A outer s H E) (wish ⟨K, F, H, B, pa⟩ (fun x ρ => RX x ρ.pa)) →
      ∃ t, PSsd (cxOf (L2.CX P w) P w K mg base N qual (defScope st) f cdv A outer s H E) ⟨K, F, H, B, pa⟩ (defBody st) t ∧
        ∀ qs π R, g qs π R RX → t { nx := fun ρ => R (.d .non) ρ.pa, rt := fun r ρ => R r ρ.pa } ⟨qs ++ List.replicate n .no, π⟩) : FnD P w K mg base (k + 1) f fd ps g := by
  refine F.okX S (fun vs H Q E h => ?_) (fun cdv A outer s H vs Q E hr h => ?_)
  · obtain ⟨F, B, pa, qs, π, R, RX, S', q, _⟩ := h
    have := S'.len
    rw [List.length_map] at this
    rw [← this]
    exact hl _ _ _ _ q
  · obtain ⟨F, B, pa, qs, π, R, RX, S', q, k1, k2⟩ := h
    have tk : Takes (cxOf (L2.CX P w) P w K mg base N qual (defScope st) f cdv A outer s H E) (wish ⟨K, F, H, B, pa⟩ (fun x ρ => RX x ρ.pa)) := (takes_of rfl rfl rfl rfl : Takes _ (fun cls d _ H => E cls d H)).imp fun cls d σ H' z => k2 cls d σ H' z
    obtain ⟨t, ⟨ts, h1, h2⟩, h3⟩ := hb cdv A outer s H E F B pa RX hr tk
    have ln : vs.length = ps.length := by
      have := S'.len
      rw [List.length_map] at this
      rw [← this]
      exact hl _ _ _ _ q
    have e := S'.entry N
    rw [ln, hn] at e
    refine ⟨ts, h1, h2 B F H _ _ _ _ e (h3 qs π R q) ⟨?_, ?_, ?_, ?_⟩⟩
    · rintro σ' H' ⟨F', ρ', s', S'', q'⟩
      exact k1 _ _ ⟨σ', ρ', .inl ⟨F', .non, s', S'', .non, q'⟩⟩
    · exact fun v H' z => k1 v H' z
    · rintro σ' H' ⟨F', ρ', s', S'', q'⟩
      exact q'.elim
    · rintro σ' H' ⟨F', ρ', s', S'', q'⟩
      exact q'.elim

/-! ### calls -/
/-- the heap has grown; fp is new and belongs to no slot -/
theorem Sr.growX {G : Gx} {B F F' H H' : Hp} {σ : St} {ρ : En} {ex : List Addr} (S : Sr G B ex F H σ ρ) (g : Grow F H F' H') (fp : List Addr) (hf : ∀ x ∈ fp, H x = none) (hg : ∀ x ∈ fp, F' x = none ∧ H' x ≠ none) : Sr G B (fp ++ ex) F' H' σ ρ := by
  have S2 := S.of_grow g
  obtain ⟨ad0, h10, h20, h30⟩ := S.sl
  refine ⟨S2.f0, S2.gb, S2.fn, S2.fh, S2.bh, S2.dom, S2.len, fun x hx => (List.mem_append.mp hx).elim (hg x) (S2.xf x), S2.pl, S2.par, S2.pf, S2.pd, ad0, fun i s hs => ?_, fun i o hs x hx hm => ?_, h30⟩
  · have q := h10 i s hs
    have at_ : ∀ a, H a ≠ none → H' a = H a := fun a h => by
      cases e : H a with
      | none => exact absurd e h
      | some o => exact g.hh _ _ e
    cases s with
    | no => trivial
    | d x =>
      obtain ⟨v, e, r⟩ := q
      exact ⟨v, e, r.mono g.f⟩
    | own o =>
      obtain ⟨a, e, r, z⟩ := q
      refine ⟨a, e, r.stay g.f fun x hx => at_ x (r.there x hx), fun x hx => ⟨?_, (z x hx).2⟩⟩
      cases e : F' x with
      | none => rfl
      | some u =>
        rcases g.n x (by rw [e]; simp) with w | w
        · exact absurd (z x hx).1 w
        · exact absurd w (r.there x hx)
    | par k => exact q
    | pin a => exact q
    | xn a dd y => obtain ⟨e1, v1, e2, e3⟩ := q; exact ⟨e1, v1, g.f _ _ e2, e3.mono g.f⟩
  · rcases List.mem_append.mp hm with w | w
    · obtain ⟨a, e, r, z⟩ := h10 i _ hs
      exact r.there x hx (hf x w)
    · exact h20 i o hs x hx w
/-- a thing that no slot owns becomes still -/
theorem Sr.still {G : Gx} {B F H : Hp} {σ : St} {ρ : En} {ex fp : List Addr} {p : Addr} {o : OD} (S : Sr G B (fp ++ ex) F H σ ρ) (r : OwnAt G.K F H fp p o) (z : ∀ x ∈ fp, F x = none ∧ G.H0 x = none ∧ B x = none) (dj : ∀ x ∈ ex, x ∉ fp) (ho : o.still = true) :
    ∃ F', Same F F' ∧ Sr G B ex F' H σ ρ ∧ At G.K F' (.ref p) o.toD := by
  have zf : ∀ x ∈ fp, F x = none := fun x hx => (z x hx).1
  have fs : Same F (over F H fp) := same_over zf
  have out : ∀ {x : Addr}, x ∉ fp → F x = none → over F H fp x = none := fun hx h => by rw [over_out hx]; exact h
  obtain ⟨ad, h1, h2, h3⟩ := S.sl
  refine ⟨over F H fp, fs, ⟨S.f0.trans fs, S.gb, fun b hb => ?_, fun b w hb => ?_, S.bh, S.dom, S.len, fun x hx => ⟨out (dj x hx) (S.xf x (List.mem_append_right _ hx)).1, (S.xf x (List.mem_append_right _ hx)).2⟩, S.pl, fun k ap o' q1 q2 => (S.par k ap o' q1 q2).stay fs fun _ _ => rfl, fun ap hap x hx => ?_, S.pd, ad, fun j s hs => ?_, fun j o' hs x hx hm => h2 j o' hs x hx (List.mem_append_right _ hm), h3⟩, r.toAt zf ho⟩
  · by_cases q : b ∈ fp
    · exact .inr (z b q).2.1
    · rw [over_out q] at hb; exact S.fn b hb
  · by_cases q : b ∈ fp
    · rw [over_in q] at hb; exact hb
    · rw [over_out q] at hb; exact S.fh _ _ hb
  · obtain ⟨q1, q2, q3⟩ := S.pf ap hap x hx
    exact ⟨out (fun w => q3 (z x w).2.1) q1, q2, q3⟩
  · have w := h1 j s hs
    cases s with
    | no => trivial
    | d x =>
      obtain ⟨v, e, r⟩ := w
      exact ⟨v, e, r.mono fs⟩
    | own o' =>
      obtain ⟨a', e', r', z'⟩ := w
      exact ⟨a', e', r'.stay fs fun _ _ => rfl, fun x hx => ⟨out (fun w => h2 j o' hs x hx (List.mem_append_left _ w)) (z' x hx).1, (z' x hx).2⟩⟩
    | par k => exact w
    | pin a => exact w
    | xn a dd y => obtain ⟨e1, v1, e2, e3⟩ := w; exact ⟨e1, v1, fs _ _ e2, e3.mono fs⟩
/-- what a callee asks, where all arguments are data -/
theorem Sr.callee {G : Gx} {B F H : Hp} {σ : St} {ρ : En} {ex : List Addr} (S : Sr G B ex F H σ ρ) {vs : List V} {ds : List D} (r : AtL G.K F vs ds) : Sr ⟨G.K, F, H, H, []⟩ H [] F H (vs.map some) ⟨ds.map .d, []⟩ := by
  refine ⟨Same.refl F, Same.refl H, fun a h => .inl h, S.fh, Same.refl H, fun a h => h, by simp [r.length], fun x hx => absurd hx (by simp), rfl, fun k ap o h => absurd (show ([] : List (Addr × List Addr))[k]? = some ap from h) (by simp), fun ap h => absurd (show ap ∈ ([] : List (Addr × List Addr)) from h) (by simp),
    fun j k ap bp h => absurd (show ([] : List (Addr × List Addr))[j]? = some ap from h) (by simp), fun _ => [], fun i s hs => ?_, fun i o hs => ?_, fun i j o u hi => ?_⟩
  · have hs' : (ds.map Sl.d)[i]? = some s := hs
    rw [List.getElem?_map] at hs'
    cases e : ds[i]? with
    | none => rw [e] at hs'; cases hs'
    | some d =>
      rw [e] at hs'
      cases hs'
      obtain ⟨v, hv, q⟩ := r.get e
      exact ⟨v, by rw [List.getElem?_map, hv]; rfl, q⟩
  · simp
  · have hs' : (ds.map Sl.d)[i]? = some (.own o) := hi
    rw [List.getElem?_map] at hs'
    cases e : ds[i]? with
    | none => rw [e] at hs'; cases hs'
    | some d => rw [e] at hs'; cases hs'
def retD (Q : D → En → Prop) (ρ : En) : Rv → Prop
  | .d x => Q x ρ
  | .own o => o.still = true ∧ Q o.toD ρ
def retO (Q : OD → En → Prop) (ρ : En) : Rv → Prop
  | .d _ => False
  | .own o => Q o ρ
def dCall (g : Gd) (RX : RXd) (t : TAd) : TEd := fun ρ Q => t ρ fun ds ρ1 => g (ds.map .d) [] (fun r _ => retD Q ρ1 r) (fun x _ => RX x ρ1)
def dCallO (g : Gd) (RX : RXd) (t : TAd) : TOd := fun ρ Q => t ρ fun ds ρ1 => g (ds.map .d) [] (fun r _ => retO Q ρ1 r) (fun x _ => RX x ρ1)
section
variable {X : Cx} {G : Gx} {RX : RXd} {k : Nat} {f : Addr} {fd : FuncData} {ps : List Str} {g : Gd} {x : Str} {p pos : Pos} {e : Expr} {es : List Expr} {t : TAd} {ta : TEd}
/-- a wish of a callee's, at the caller's slots -/
theorem wish_call {B F H H' : Hp} {σ σ' : St} {ρ : En} {cls : Value} {d : Option Addr} {K : PySem.W.Frag} (S : Sr G B [] F H σ ρ) (z : wish ⟨G.K, F, H, H, []⟩ (fun y _ => RX y ρ) cls d σ' H') : wish G RX cls d σ H' := by
  obtain ⟨B', F', ρ', x, S', r, q⟩ := z
  exact ⟨B, F', ρ, x, S.grow S'.f0 S'.fn S'.fh (S'.gb.trans S'.bh), r, q⟩
theorem d_callE (F : FnD X.prog X.w X.K X.mg X.base k f fd ps g) (hr : Room k X.A) (hg : Gl X x) (hm : X.mg x = some (.ref f)) (hk : PySem.W.keepIn X.K (.ref f) = true) (hb : Binds X.K fd ps [])
    (tk : Takes X (wish G RX)) (ha : PAd X G (e :: es) t) (hK : G.K = X.K) (hdb : (x == ("__debug__" : Str)) = false) (he : starEach (e :: es) X.env = (false, eval e X.env) :: starEach es X.env) (hpl : (backTo pos (starEach es X.env)).any (·.1) = false) :
    ∃ te, PE X (.Call (.Name x p) (e :: es) [] pos) te ∧ ∀ (B : Hp) ex F H σ ρ (Qh : VK) (R : Rv → En → Prop), Sr G B ex F H σ ρ → (t ρ fun ds ρ1 => g (ds.map .d) [] (fun r _ => R r ρ1) (fun x _ => RX x ρ1)) →
      (∀ v H' F1 H1 ρ1, Same F F1 → Sr G B ex F1 H1 σ ρ1 → LRv ⟨G.K, F1, H1, H1, []⟩ H1 F1 (fun r _ => R r ρ1) v H' → Qh v H') → te σ H Qh := by
  obtain ⟨tu, h1, h2⟩ := ha
  refine ⟨_, pe_callS F hr hg hm hk hb (fun σ => passAt tk σ) h1 hdb he hpl, fun B ex F H σ ρ Qh R S q kk => ?_⟩
  refine h2 B ex F H σ ρ _ _ S q ?_
  rintro vs H1 ⟨F1, ds, ρ1, s1, S1, r1, q1⟩
  refine ⟨F1, H1, [], ds.map .d, [], fun r _ => R r ρ1, fun x _ => RX x ρ1, ?_, q1, ?_, ?_⟩
  · rw [← hK]
    exact S1.callee r1
  · rw [← hK]
    exact fun v H' z => kk v H' F1 H1 ρ1 s1 S1 z
  · rw [← hK]
    exact fun cls d σ' H' z => wish_call (K := G.K) (S1.weak (Same.refl B) S1.gb (fun x hx => absurd hx (by simp))) z
theorem lrv_grow {B F1 H1 H' : Hp} {ex : List Addr} {σ : St} {ρ1 : En} {v : V} {R : Rv → Prop} (S1 : Sr G B ex F1 H1 σ ρ1) (z : LRv ⟨G.K, F1, H1, H1, []⟩ H1 F1 (fun r _ => R r) v H') :
    (∃ F' y, Same F1 F' ∧ Sr G B ex F' H' σ ρ1 ∧ At G.K F' v y ∧ R (.d y)) ∨
    (∃ F' q fp o, Same F1 F' ∧ Sr G B (fp ++ ex) F' H' σ ρ1 ∧ v = .ref q ∧ OwnAt G.K F' H' fp q o ∧ (∀ x ∈ fp, F' x = none ∧ G.H0 x = none ∧ B x = none) ∧ (∀ x ∈ ex, x ∉ fp) ∧ R (.own o)) := by
  obtain ⟨σ', ρ', ⟨F', y, s', S', r, q⟩ | ⟨F', pp, fp, o, s', S', e, r, zz, q⟩⟩ := z
  · exact .inl ⟨F', y, s', S1.grow S'.f0 S'.fn S'.fh S'.bh, r, q⟩
  · refine .inr ⟨F', pp, fp, o, s', S1.growX ⟨S'.f0, S'.fn, S'.fh, S'.bh⟩ fp (fun x hx => (zz x hx).2.1) (fun x hx => ⟨(zz x hx).1, r.there x hx⟩), e, r, fun x hx => ?_, fun x hx hm => (S1.xf x hx).2 (zz x hm).2.1, q⟩
    exact ⟨(zz x hx).1, S1.dom x (zz x hx).2.1, S1.bfree (zz x hx).2.1⟩
theorem d_call (F : FnD X.prog X.w X.K X.mg X.base k f fd ps g) (hr : Room k X.A) (hg : Gl X x) (hm : X.mg x = some (.ref f)) (hk : PySem.W.keepIn X.K (.ref f) = true) (hb : Binds X.K fd ps [])
    (tk : Takes X (wish G RX)) (ha : PAd X G (e :: es) t) (hK : G.K = X.K := by rfl) (hdb : (x == ("__debug__" : Str)) = false := by decide) (he : starEach (e :: es) X.env = (false, eval e X.env) :: starEach es X.env := by rfl)
    (hpl : (backTo pos (starEach es X.env)).any (·.1) = false := by rfl) : PEd X G (.Call (.Name x p) (e :: es) [] pos) (dCall g RX t) := by
  obtain ⟨te, h1, h2⟩ := d_callE F hr hg hm hk hb tk ha hK hdb he hpl
  refine ⟨te, h1, fun B ex F H σ ρ Q Qh S q kk => h2 B ex F H σ ρ Qh (fun r ρ1 => retD Q ρ1 r) S q ?_⟩
  intro v H' F1 H1 ρ1 s1 S1 z
  rcases lrv_grow (R := retD Q ρ1) S1 z with ⟨F', y, s', S', r, q⟩ | ⟨F', pp, fp, o, s', S', e, r, zz, dj, q⟩
  · exact kk _ _ ⟨F', y, ρ1, s1.trans s', S', r, q⟩
  · subst e
    obtain ⟨F2, s2, S2, a2⟩ := S'.still r zz dj q.1
    exact kk _ _ ⟨F2, _, ρ1, (s1.trans s').trans s2, S2, a2, q.2⟩
theorem d_callO (F : FnD X.prog X.w X.K X.mg X.base k f fd ps g) (hr : Room k X.A) (hg : Gl X x) (hm : X.mg x = some (.ref f)) (hk : PySem.W.keepIn X.K (.ref f) = true) (hb : Binds X.K fd ps [])
    (tk : Takes X (wish G RX)) (ha : PAd X G (e :: es) t) (hK : G.K = X.K := by rfl) (hdb : (x == ("__debug__" : Str)) = false := by decide) (he : starEach (e :: es) X.env = (false, eval e X.env) :: starEach es X.env := by rfl)
    (hpl : (backTo pos (starEach es X.env)).any (·.1) = false := by rfl) : POd X G (.Call (.Name x p) (e :: es) [] pos) (dCallO g RX t) := by
  obtain ⟨te, h1, h2⟩ := d_callE F hr hg hm hk hb tk ha hK hdb he hpl
  refine ⟨te, h1, fun B ex F H σ ρ Q Qh S q kk => h2 B ex F H σ ρ Qh (fun r ρ1 => retO Q ρ1 r) S q ?_⟩
  intro v H' F1 H1 ρ1 s1 S1 z
  rcases lrv_grow (R := retO Q ρ1) S1 z with ⟨F', y, s', S', r, q⟩ | ⟨F', pp, fp, o, s', S', e, r, zz, dj, q⟩
  · exact q.elim
  · exact kk _ _ ⟨F', pp, fp, o, ρ1, s1.trans s', S', e, r, zz, dj, q⟩
end
end DL

/-! text DLf -/
set_option Elab.async false
set_option linter.all false
set_option maxRecDepth 100000
set_option maxHeartbeats 4000000
namespace DL
open PySem PySem.Spec PyProof.Rows L2 RZ
/-! ### what is walked -/
abbrev TId := En → (List D → En → Prop) → Prop
/-- the iterator gives the data xs, one after the other, while the still part stands -/
def ItOk (K : PySem.W.Frag) (F : Hp) (J : It) (xs : List D) : Prop := ∃ Gd Y, Walk J xs.length Gd Y ∧ (∀ F' H, Same F F' → Same F' H → Gd H) ∧
  ∀ i F' H v H', Same F F' → Same F' H → i < xs.length → Y i H v H' → ∃ F2 d, Grow F' H F2 H' ∧ xs[i]? = some d ∧ At K F2 v d
def SndI (G : Gx) (wi : TI) (t : TId) : Prop := ∀ (B : Hp) ex F H σ ρ Q (Qh : It → Hp → Prop), Sr G B ex F H σ ρ → t ρ Q → (∀ J H' F' xs ρ', Same F F' → Sr G B ex F' H' σ ρ' → ItOk G.K F' J xs → Q xs ρ' → Qh J H') → wi σ H Qh
def PId (X : Cx) (G : Gx) (tg iter : Expr) (t : TId) : Prop := ∃ wi, PI X tg iter wi ∧ SndI G wi t
theorem ItOk.list {K : PySem.W.Frag} {F : Hp} {a : Addr} {vs : List V} {ds : List D} (h : F a = some (.lst vs)) (r : AtL K F vs ds) : ItOk K F (Itl K a) ds := by
  refine ⟨fun H => SqL K H a vs, YAt vs, ?_, fun F' H s s' => SqL.of (s' _ _ (s _ _ h)), fun i F' H v H' s s' hi y => ?_⟩
  · rw [← r.length]; exact walk_list
  · obtain ⟨e, y⟩ := y
    subst e
    obtain ⟨d, hd, q⟩ := r.getV y
    exact ⟨F', d, Grow.refl s', hd, q.mono s⟩
theorem ItOk.tup {K : PySem.W.Frag} {F : Hp} {a : Addr} {vs : List V} {ds : List D} (h : SqT K F a vs) (r : AtL K F vs ds) : ItOk K F (Itt K a) ds := by
  refine ⟨fun H => SqT K H a vs, YAt vs, ?_, fun F' H s s' => sqt_same (s.trans s') h, fun i F' H v H' s s' hi y => ?_⟩
  · rw [← r.length]; exact walk_tup
  · obtain ⟨e, y⟩ := y
    subst e
    obtain ⟨d, hd, q⟩ := r.getV y
    exact ⟨F', d, Grow.refl s', hd, q.mono s⟩
def rangeD (lo : Int) (n : Nat) : List D := (List.range n).map fun i : Nat => D.int (lo + i)
theorem rangeD_len (lo : Int) (n : Nat) : (rangeD lo n).length = n := by simp [rangeD]
theorem rangeD_get {lo : Int} {n i : Nat} (h : i < n) : (rangeD lo n)[i]? = some (.int (lo + i)) := by simp [rangeD, h]
theorem ItOk.range {K : PySem.W.Frag} {F : Hp} {lo : Int} {n : Nat} : ItOk K F (Itr lo n) (rangeD lo n) := by
  refine ⟨fun _ => True, YFn fun i => .int (lo + i), ?_, fun F' H s s' => trivial, fun i F' H v H' s s' hi y => ?_⟩
  · rw [rangeD_len]; exact walk_range
  · obtain ⟨e, y⟩ := y
    subst e
    subst y
    rw [rangeD_len] at hi
    exact ⟨F', _, Grow.refl s', rangeD_get hi, .int _⟩
theorem PI.or {X : Cx} {tg iter : Expr} {w1 w2 : TI} (h1 : PI X tg iter w1) (h2 : PI X tg iter w2) : PI X tg iter (fun σ H R => w1 σ H R ∨ w2 σ H R) :=
  ⟨fun pins s σ H R I h => h.elim (h1.run pins s σ H R I) (h2.run pins s σ H R I)⟩
section
variable {X : Cx} {G : Gx} {tg e a b : Expr} {te ta tb : TEd} {p pos : Pos} {t : TAd}
/-- a list or a tuple -/
def iSeq (te : TEd) : TId := fun ρ Q => te ρ fun x ρ1 => match x with
  | .lst l => Q l ρ1
  | .tup l => Q l ρ1
  | _ => False
def iLst (te : TEd) : TId := fun ρ Q => te ρ fun x ρ1 => match x with
  | .lst l => Q l ρ1
  | _ => False
def iTup (te : TEd) : TId := fun ρ Q => te ρ fun x ρ1 => match x with
  | .tup l => Q l ρ1
  | _ => False
theorem di_list (he : PEd X G e te) (hK : G.K = X.K := by rfl) : PId X G tg e (iLst te) := by
  obtain ⟨w, h1, h2⟩ := he
  refine ⟨_, pi_list h1, fun B ex F H σ ρ Q Qh S q k => h2 B ex F H σ ρ _ _ S q ?_⟩
  rintro v H1 ⟨F1, d, ρ1, s1, S1, r1, q1⟩
  cases r1 with
  | lst hv r =>
    rw [← hK]
    exact ⟨_, rfl, ⟨_, SqL.of (S1.fh _ _ hv)⟩, k _ _ F1 _ ρ1 s1 S1 (ItOk.list hv r) q1⟩
  | _ => exact q1.elim
theorem di_tup (he : PEd X G e te) (hK : G.K = X.K := by rfl) : PId X G tg e (iTup te) := by
  obtain ⟨w, h1, h2⟩ := he
  refine ⟨_, pi_tup h1, fun B ex F H σ ρ Q Qh S q k => h2 B ex F H σ ρ _ _ S q ?_⟩
  rintro v H1 ⟨F1, d, ρ1, s1, S1, r1, q1⟩
  cases r1 with
  | tup hv r =>
    rw [← hK]
    exact ⟨_, rfl, ⟨_, sqt_same S1.fh hv⟩, k _ _ F1 _ ρ1 s1 S1 (ItOk.tup hv r) q1⟩
  | _ => exact q1.elim
def iR1 (te : TEd) : TId := fun ρ Q => te ρ fun x ρ1 => match x with
  | .int n => (-(2 ^ 62) ≤ n ∧ n < 2 ^ 62) ∧ Q (rangeD 0 n.toNat) ρ1
  | _ => False
def iR2 (ta tb : TEd) : TId := fun ρ Q => ta ρ fun x ρ1 => tb ρ1 fun y ρ2 => match x, y with
  | .int a, .int b => (-(2 ^ 62) ≤ a ∧ a < 2 ^ 62 ∧ -(2 ^ 62) ≤ b ∧ b < 2 ^ 62) ∧ Q (rangeD a (b - a).toNat) ρ2
  | _, _ => False
theorem di_r1 (hg : Gl X "range") (hm : X.mg "range" = none) (ha : PEd X G a ta) (hs : starEach [a] X.env = [(false, eval a X.env)] := by rfl) : PId X G tg (.Call (.Name "range" p) [a] [] pos) (iR1 ta) := by
  obtain ⟨w, h1, h2⟩ := ha
  refine ⟨_, pi_range1 hg hm (pa_cons h1 pa_nil hs) hs, fun B ex F H σ ρ Q Qh S q k => h2 B ex F H σ ρ _ _ S q ?_⟩
  rintro v H1 ⟨F1, d, ρ1, s1, S1, r1, q1⟩
  cases r1 with
  | int i => exact ⟨i, rfl, q1.1.1, q1.1.2, k _ _ F1 _ ρ1 s1 S1 ItOk.range q1.2⟩
  | _ => exact q1.elim
theorem di_r2 (hg : Gl X "range") (hm : X.mg "range" = none) (ha : PEd X G a ta) (hb : PEd X G b tb) (hs : starEach [a, b] X.env = [(false, eval a X.env), (false, eval b X.env)] := by rfl) (hs2 : starEach [b] X.env = [(false, eval b X.env)] := by rfl)
    (hs3 : starEach [a, b] X.env = (false, eval a X.env) :: starEach [b] X.env := by rfl) : PId X G tg (.Call (.Name "range" p) [a, b] [] pos) (iR2 ta tb) := by
  obtain ⟨w, h1, h2⟩ := ha
  obtain ⟨u, k1, k2⟩ := hb
  refine ⟨_, pi_range2 hg hm (pa_cons h1 (pa_cons k1 pa_nil hs2) hs3) hs hs2, fun B ex F H σ ρ Q Qh S q k => h2 B ex F H σ ρ _ _ S q ?_⟩
  rintro v H1 ⟨F1, d, ρ1, s1, S1, r1, q1⟩
  refine k2 B ex F1 H1 σ ρ1 _ _ S1 q1 ?_
  rintro v2 H2 ⟨F2, d2, ρ2, s2, S2, r2, q2⟩
  cases r1 with
  | int i =>
    cases r2 with
    | int j => exact ⟨i, j, rfl, q2.1, k _ _ F2 _ ρ2 (s1.trans s2) S2 ItOk.range q2.2⟩
    | _ => exact q2.elim
  | _ => exact q2.elim
/-- pairs -/
def zipD (xs ys : List D) : List D := (xs.zip ys).map fun p => D.tup [p.1, p.2]
def iZip (ta tb : TEd) : TId := fun ρ Q => ta ρ fun x ρ1 => tb ρ1 fun y ρ2 => match x, y with
  | .tup a, .tup b => Q (zipD a b) ρ2
  | .lst a, .lst b => Q (zipD a b) ρ2
  | _, _ => False
theorem pair_ok {K : PySem.W.Frag} {F F' H H' : Hp} {vs ws : List V} {xs ys : List D} (r : AtL K F vs xs) (q : AtL K F ws ys) {i : Nat} {v : V} (s : Same F F') (s' : Same F' H) (y : YPair (fun i => vs[i]?) (fun i => ws[i]?) i H v H') :
    ∃ F2 d, Grow F' H F2 H' ∧ (zipD xs ys)[i]? = some d ∧ At K F2 v d := by
  obtain ⟨T, x, z, rfl, hT, rfl, h1, h2⟩ := y
  obtain ⟨d, hd, r1⟩ := r.getV h1
  obtain ⟨e, he, r2⟩ := q.getV h2
  refine ⟨upd F' T (.tup [x, z]), .tup [d, e], Grow.new s' hT, ?_, .tup (SqT.of upd_same) (.cons ((r1.mono s).mono (same_new (s'.free hT))) (.cons ((r2.mono s).mono (same_new (s'.free hT))) .nil))⟩
  have hz : (xs.zip ys)[i]? = some (d, e) := by
    rw [List.getElem?_eq_some_iff] at hd he ⊢
    obtain ⟨h1, e1⟩ := hd
    obtain ⟨h2, e2⟩ := he
    refine ⟨by rw [List.length_zip]; omega, ?_⟩
    rw [List.getElem_zip, e1, e2]
  unfold zipD
  rw [List.getElem?_map, hz]
  rfl
theorem walk_zipT {K : PySem.W.Frag} {a b : Addr} {xs ys : List V} {n : Nat} (hn : n = min xs.length ys.length) : Walk (ItzT K a b) n (fun H => SqT K H a xs ∧ SqT K H b ys) (YPair (fun i => xs[i]?) (fun i => ys[i]?)) := by
  subst hn
  refine ⟨fun i _ hi q => ?_, fun _ q => ⟨xs, ys, q.1, q.2, by omega⟩, fun i H v H' _ q y => ?_⟩
  · have h1 : i < xs.length := by omega
    have h2 : i < ys.length := by omega
    exact ⟨xs, ys, xs[i], ys[i], q.1, q.2, by simp [h1], by simp [h2]⟩
  · obtain ⟨T, x, z, h1, h2, h3, h4, h5⟩ := y
    exact ⟨T, x, z, h1, h2, h3, h4 xs q.1, h5 ys q.2⟩
theorem di_zip {elts : List Expr} {kk : Nat} {tpos : Pos} (hg : Gl X "zip") (hm : X.mg "zip" = none) (ha : PEd X G a ta) (hb : PEd X G b tb) (hK : G.K = X.K := by rfl) (hs : starEach [a, b] X.env = (false, eval a X.env) :: starEach [b] X.env := by rfl)
    (hpl : (backTo pos (starEach [b] X.env)).any (·.1) = false := by rfl) (hs2 : starEach [b] X.env = (false, eval b X.env) :: starEach [] X.env := by rfl) : PId X G (.Tuple elts kk tpos) (.Call (.Name "zip" p) [a, b] [] pos) (iZip ta tb) := by
  obtain ⟨w, h1, h2⟩ := ha
  obtain ⟨u, k1, k2⟩ := hb
  refine ⟨_, pi_zipA hg hm (pa_cons h1 (pa_cons k1 pa_nil hs2) hs) hs hpl, fun B ex F H σ ρ Q Qh S q k => h2 B ex F H σ ρ _ _ S q ?_⟩
  rintro v H1 ⟨F1, d, ρ1, s1, S1, r1, q1⟩
  refine k2 B ex F1 H1 σ ρ1 _ _ S1 q1 ?_
  rintro v2 H2 ⟨F2, d2, ρ2, s2, S2, r2, q2⟩
  rw [← hK]
  cases r1 with
  | @tup a1 vs ds hv r =>
    cases r2 with
    | @tup a2 ws es hw q =>
      refine ⟨_, _, _, _, rfl, .inr ⟨sqt_same (s2.trans S2.fh) hv, sqt_same S2.fh hw, k _ _ F2 _ ρ2 (s1.trans s2) S2 ?_ q2⟩⟩
      refine ⟨_, _, walk_zipT (xs := vs) (ys := ws) ?_, fun F' H s s' => ⟨sqt_same ((s2.trans s).trans s') hv, sqt_same (s.trans s') hw⟩, fun i F' H v H' s s' hi y => pair_ok (r.mono s2) q s s' y⟩
      simp [zipD, r.length, q.length]
    | _ => exact q2.elim
  | @lst a1 vs ds hv r =>
    cases r2 with
    | @lst a2 ws es hw q =>
      refine ⟨_, _, _, _, rfl, .inl ⟨SqL.of (S2.fh _ _ (s2 _ _ hv)), SqL.of (S2.fh _ _ hw), k _ _ F2 _ ρ2 (s1.trans s2) S2 ?_ q2⟩⟩
      refine ⟨_, _, walk_zip (xs := vs) (ys := ws) ?_, fun F' H s s' => ⟨SqL.of (s' _ _ (s _ _ (s2 _ _ hv))), SqL.of (s' _ _ (s _ _ hw))⟩, fun i F' H v H' s s' hi y => pair_ok (r.mono s2) q s s' y⟩
      simp [zipD, r.length, q.length]
    | _ => exact q2.elim
  | _ => cases r2 <;> exact q2.elim
end

/-! ### targets -/
abbrev TGd := D → En → (En → Prop) → Prop
def SndG (G : Gx) (g : TG) (gd : TGd) (js : List Nat) : Prop := ∀ (B : Hp) ex F H σ ρ v d Q (Qh : St → Hp → Prop), Sr G B ex F H σ ρ → At G.K F v d → gd d ρ Q →
  (∀ σ' F' H' ρ', Same F F' → Sr G B ex F' H' σ' ρ' → (∀ vs : List Nat, (∀ j ∈ js, j ∈ vs) → wipe σ' vs = wipe σ vs) → Q ρ' → Qh σ' H') → g v σ H Qh
def PGd (X : Cx) (G : Gx) (tg : Expr) (gd : TGd) (js : List Nat) : Prop := ∃ g, PG X tg g ∧ SndG G g gd js
theorem wipe_set {σ : St} {j : Nat} {x : Option V} : ∀ {vs : List Nat}, j ∈ vs → wipe (σ.set j x) vs = wipe σ vs
  | [], h => absurd h (by simp)
  | v :: vs, h => by
    unfold wipe
    by_cases q : j ∈ vs
    · rw [wipe_set q]
    · have e : j = v := by
        rcases List.mem_cons.mp h with z | z
        · exact z
        · exact absurd z q
      subst e
      have go : ∀ (l : List Nat) (τ : St), j ∉ l → wipe (τ.set j x) l = (wipe τ l).set j x := by
        intro l
        induction l with
        | nil => intro τ _; rfl
        | cons w l ih =>
          intro τ hn
          simp only [List.mem_cons, not_or] at hn
          unfold wipe
          rw [ih τ hn.2, List.set_comm _ _ hn.1]
      rw [go vs σ q, List.set_set]
section
variable {X : Cx} {G : Gx} {pos : Pos}
def gN (i : Nat) : TGd := fun d ρ Q => Q ⟨ρ.sl.set i (.d d), ρ.pa⟩
theorem dg_name (i : Nat) {x : Str} (hN : X.N.Nodup) (hi : X.N[i]? = some x := by rfl) (hx : Loc X.env.scope x := by first | exact Or.inl rfl | exact Or.inr rfl) (hf : X.fn x = true ∨ X.env.scope.names.lookup x = some .local := by first | exact .inl rfl | exact .inr rfl | assumption) :
    PGd X G (.Name x pos) (gN i) [i] :=
  ⟨_, pg_name hN hi hx hf, fun B ex F H σ ρ v d Q Qh S r q k => k _ _ _ _ (Same.refl F) (S.set i r) (fun vs hv => wipe_set (hv i (by simp))) q⟩
abbrev TGsd := List D → En → (En → Prop) → Prop
def SndGs (G : Gx) (g : TGs) (gd : TGsd) (js : List Nat) : Prop := ∀ (B : Hp) ex F H σ ρ v d Q (Qh : St → Hp → Prop), Sr G B ex F H σ ρ → AtL G.K F v d → gd d ρ Q →
  (∀ σ' F' H' ρ', Same F F' → Sr G B ex F' H' σ' ρ' → (∀ vs : List Nat, (∀ j ∈ js, j ∈ vs) → wipe σ' vs = wipe σ vs) → Q ρ' → Qh σ' H') → g v σ H Qh
def PGsd (X : Cx) (G : Gx) (tgs : List Expr) (gd : TGsd) (js : List Nat) : Prop := ∃ g, PGs X tgs g ∧ SndGs G g gd js
def gsNil : TGsd := fun l ρ Q => match l with
  | [] => Q ρ
  | _ => False
def gsCons (t : TGd) (u : TGsd) : TGsd := fun l ρ Q => match l with
  | d :: r => t d ρ fun ρ1 => u r ρ1 Q
  | [] => False
theorem dgs_nil : PGsd X G [] gsNil [] := ⟨_, pgs_nil, fun B ex F H σ ρ v d Q Qh S r q k => by
  cases r with
  | nil => exact ⟨rfl, k σ F H ρ (Same.refl F) S (fun _ _ => rfl) q⟩
  | cons _ _ => exact q.elim⟩
theorem dgs_cons {e : Expr} {es : List Expr} {t : TGd} {u : TGsd} {js ks : List Nat} (h1 : PGd X G e t js) (h2 : PGsd X G es u ks)
    (hs : (assignEach (e :: es) X.env).map (·.2) = assign e X.env :: (assignEach es X.env).map (·.2) := by rfl) : PGsd X G (e :: es) (gsCons t u) (js ++ ks) := by
  obtain ⟨w, a1, a2⟩ := h1
  obtain ⟨y, b1, b2⟩ := h2
  refine ⟨_, pgs_cons a1 b1 hs, fun B ex F H σ ρ v d Q Qh S r q k => ?_⟩
  cases r with
  | nil => exact q.elim
  | cons r rr =>
    refine ⟨_, _, rfl, a2 B ex F H σ ρ _ _ _ _ S r q ?_⟩
    intro σ1 F1 H1 ρ1 s1 S1 w1 q1
    refine b2 B ex F1 H1 σ1 ρ1 _ _ _ _ S1 (rr.mono s1) q1 ?_
    intro σ2 F2 H2 ρ2 s2 S2 w2 q2
    exact k σ2 F2 H2 ρ2 (s1.trans s2) S2 (fun vs hv => (w2 vs fun j hj => hv j (by simp [hj])).trans (w1 vs fun j hj => hv j (by simp [hj]))) q2
def gT (n : Nat) (t : TGsd) : TGd := fun d ρ Q => match d with
  | .tup l => l.length = n ∧ t l ρ Q
  | _ => False
theorem dg_tup {es : List Expr} {k : Nat} {t : TGsd} {n : Nat} {js : List Nat} (hc : X.calm = true) (h : PGsd X G es t js) (hn : (assignEach es X.env).length = n := by rfl) (hst : (assignEach es X.env).findIdx? (·.1) = none := by rfl) (hK : G.K = X.K := by rfl) : PGd X G (.Tuple es k pos) (gT n t) js := by
  obtain ⟨w, a1, a2⟩ := h
  refine ⟨_, pg_tup (n := n) hc a1 hn hst, fun B ex F H σ ρ v d Q Qh S r q k => ?_⟩
  cases r with
  | tup hv r =>
    rw [← hK]
    exact ⟨_, _, rfl, sqt_same S.fh hv, by rw [r.length]; exact q.1, a2 B ex F H σ ρ _ _ _ _ S r q.2 k⟩
  | _ => exact q.elim
end

/-! ### loops -/
section
variable {X : Cx} {G : Gx} {pos : Pos} {tg iter : Expr} {ti : TId} {g : TGd} {js : List Nat} {body : List Stmt} {tb : TSd}
def dFor (ti : TId) (g : TGd) (tb : TSd) : TSd := fun D ρ => ti ρ fun xs ρ1 => ∃ Pv : Nat → En → Prop, Pv 0 ρ1 ∧
  (∀ i d ρ, xs[i]? = some d → Pv i ρ → g d ρ fun ρ2 => tb { D with nx := Pv (i + 1), ct := Pv (i + 1), bk := D.nx } ρ2) ∧ (∀ ρ, Pv xs.length ρ → D.nx ρ)
theorem ds_for (hp : PassesOwn (model X.prog X.w) X.A X.env X.xe) (hc : X.calm = true) (hi : PId X G tg iter ti) (hg : PGd X G tg g js) (hb : PSsd X G body tb) (hs : ∀ x, foldedSetIterable iter X.env x = pure x := by intro _; rfl) : PSd X G (.For tg iter body [] pos) (dFor ti g tb) := by
  obtain ⟨wi, a1, a2⟩ := hi
  obtain ⟨wg, b1, b2⟩ := hg
  obtain ⟨wb, c1, c2⟩ := hb
  refine ⟨_, ps_for hp hc a1 b1 c1 hs, fun B F H σ ρ Dd D' S q k => a2 B [] F H σ ρ _ _ S q ?_⟩
  rintro J H1 F1 xs ρ1 s1 S1 ⟨Gd, Y, w, hG, hY⟩ ⟨Pv, p0, pt, pe⟩
  refine for_it w (fun i σ' H' => ∃ F' ρ', Same F1 F' ∧ Sr G B [] F' H' σ' ρ' ∧ Pv i ρ') ⟨F1, ρ1, Same.refl F1, S1, p0⟩ ?_ ?_ ?_
  · rintro i σ' H' _ ⟨F', ρ', s', S', _⟩
    exact hG F' H' s' S'.fh
  · rintro i v σ' H' H2 hi ⟨F', ρ', s', S', p'⟩ y
    obtain ⟨F2, d, gr, hd, r⟩ := hY i F' H' v H2 s' S'.fh hi y
    refine b2 B [] F2 H2 σ' ρ' v d _ _ (S'.of_grow gr) r (pt i d ρ' hd p') ?_
    intro σ3 F3 H3 ρ3 s3 S3 _ q3
    refine c2 B F3 H3 σ3 ρ3 _ _ S3 q3 ⟨?_, ?_, ?_, ?_⟩
    · rintro σ4 H4 ⟨F4, ρ4, s4, S4, q4⟩
      exact ⟨F4, ρ4, ((s'.trans gr.f).trans s3).trans s4, S4, q4⟩
    · exact fun v H4 z => (k.step (((s1.trans s').trans gr.f).trans s3)).rt v H4 z
    · rintro σ4 H4 z
      exact (k.step (((s1.trans s').trans gr.f).trans s3)).nx σ4 H4 z
    · rintro σ4 H4 ⟨F4, ρ4, s4, S4, q4⟩
      exact ⟨F4, ρ4, ((s'.trans gr.f).trans s3).trans s4, S4, q4⟩
  · rintro σ' H' ⟨F', ρ', s', S', p'⟩
    exact k.nx _ _ ⟨F', ρ', s1.trans s', S', pe ρ' p'⟩
def dWhile (c : TTd) (tb : TSd) : TSd := fun D ρ => ∃ Pv : Nat → En → Prop, (∃ m, Pv m ρ) ∧ ∀ m ρ, Pv m ρ → c ρ fun b ρ1 => if b = true then tb { D with nx := fun ρ' => ∃ m', m' < m ∧ Pv m' ρ', ct := fun ρ' => ∃ m', m' < m ∧ Pv m' ρ', bk := D.nx } ρ1 else D.nx ρ1
theorem ds_while {c : Expr} {tc : TTd} (hp : PassesOwn (model X.prog X.w) X.A X.env X.xe) (hc : PTd X G c tc) (hb : PSsd X G body tb) : PSd X G (.While c body [] pos) (dWhile tc tb) := by
  obtain ⟨w, a1, a2⟩ := hc
  obtain ⟨wb, c1, c2⟩ := hb
  refine ⟨_, ps_while hp a1 c1, fun B F H σ ρ Dd D' S q k => ?_⟩
  obtain ⟨Pv, ⟨m0, p0⟩, pt⟩ := q
  refine ⟨fun m σ' H' => ∃ F' ρ', Same F F' ∧ Sr G B [] F' H' σ' ρ' ∧ Pv m ρ', ⟨m0, F, ρ, Same.refl F, S, p0⟩, ?_⟩
  rintro m σ' H' ⟨F', ρ', s', S', p'⟩
  refine a2 B [] F' H' σ' ρ' _ _ S' (pt m ρ' p') ?_
  rintro b H1 ⟨F1, ρ1, s1, S1, q1⟩
  cases b with
  | true =>
    rw [if_pos rfl] at q1 ⊢
    refine ⟨fun σ4 H4 => ∃ m', m' < m ∧ ∃ F4 ρ4, Same F F4 ∧ Sr G B [] F4 H4 σ4 ρ4 ∧ Pv m' ρ4, fun _ _ h => h, c2 B F1 H1 σ' ρ1 _ _ S1 q1 ⟨?_, ?_, ?_, ?_⟩⟩
    · rintro σ4 H4 ⟨F4, ρ4, s4, S4, m', hm, q4⟩
      exact ⟨m', hm, F4, ρ4, (s'.trans s1).trans s4, S4, q4⟩
    · exact fun v H4 z => (k.step (s'.trans s1)).rt v H4 z
    · exact fun σ4 H4 z => (k.step (s'.trans s1)).nx σ4 H4 z
    · rintro σ4 H4 ⟨F4, ρ4, s4, S4, m', hm, q4⟩
      exact ⟨m', hm, F4, ρ4, (s'.trans s1).trans s4, S4, q4⟩
  | false =>
    rw [if_neg Bool.false_ne_true] at q1 ⊢
    exact k.nx _ _ ⟨F1, ρ1, s'.trans s1, S1, q1⟩

/-! ### comprehensions -/
def wipeL (l : List Sl) : List Nat → List Sl
  | [] => l
  | v :: vs => (wipeL l vs).set v .no
def En.wipe (ρ : En) (vs : List Nat) : En := ⟨wipeL ρ.sl vs, ρ.pa⟩
theorem wipeL_len (l : List Sl) : ∀ vs, (wipeL l vs).length = l.length
  | [] => rfl
  | v :: vs => by unfold wipeL; rw [List.length_set, wipeL_len l vs]
theorem wipeL_get {l : List Sl} {i : Nat} {s : Sl} : ∀ {vs : List Nat}, (wipeL l vs)[i]? = some s → s = .no ∨ (l[i]? = some s ∧ i ∉ vs)
  | [], h => .inr ⟨h, by simp⟩
  | v :: vs, h => by
    unfold wipeL at h
    by_cases q : v = i
    · subst q
      have lt : v < ((wipeL l vs).set v .no).length := (List.getElem?_eq_some_iff.mp h).1
      rw [List.length_set] at lt
      rw [List.getElem?_set_self lt] at h
      cases h
      exact .inl rfl
    · rw [List.getElem?_set_ne q] at h
      rcases wipeL_get h with z | ⟨z, w⟩
      · exact .inl z
      · exact .inr ⟨z, by simp only [List.mem_cons, not_or]; exact ⟨fun e => q e.symm, w⟩⟩
theorem wipe_get {σ : St} {i : Nat} : ∀ {vs : List Nat}, i ∉ vs → (L2.wipe σ vs)[i]? = σ[i]?
  | [], _ => rfl
  | v :: vs, h => by
    simp only [List.mem_cons, not_or] at h
    unfold L2.wipe
    rw [List.getElem?_set_ne (fun e => h.1 e.symm), wipe_get h.2]
theorem Sr.wipe {B F H : Hp} {σ : St} {ρ : En} {ex : List Addr} (S : Sr G B ex F H σ ρ) (vs : List Nat) : Sr G B ex F H (L2.wipe σ vs) (ρ.wipe vs) := by
  obtain ⟨ad, h1, h2, h3⟩ := S.sl
  refine ⟨S.f0, S.gb, S.fn, S.fh, S.bh, S.dom, by show (wipeL ρ.sl vs).length = _; rw [wipeL_len, L2.wipe_length]; exact S.len, S.xf, S.pl, S.par, S.pf, S.pd, ad, fun i s hs => ?_, fun i o hs => ?_, fun i j o u hi hj => ?_⟩
  · rcases wipeL_get (show (wipeL ρ.sl vs)[i]? = some s from hs) with rfl | ⟨e, n⟩
    · trivial
    · rw [wipe_get n]; exact h1 i s e
  · rcases wipeL_get (show (wipeL ρ.sl vs)[i]? = some (.own o) from hs) with e | ⟨e, n⟩
    · cases e
    · exact h2 i o e
  · rcases wipeL_get (show (wipeL ρ.sl vs)[i]? = some (.own o) from hi) with e | ⟨e, n⟩
    · cases e
    · rcases wipeL_get (show (wipeL ρ.sl vs)[j]? = some (.own u) from hj) with e' | ⟨e', n'⟩
      · cases e'
      · exact h3 i j o u e e'
/-- the slots of vs hold data or nothing -/
def calmAt (ρ : En) (vs : List Nat) : Prop := ∀ i ∈ vs, ∀ o, ρ.sl[i]? ≠ some (.own o)
/-- the slots of vs as they stood in ρ0 -/
def backL (l l0 : List Sl) : List Nat → List Sl
  | [] => l
  | v :: vs => (backL l l0 vs).set v (l0.getD v .no)
def En.back (ρ ρ0 : En) (vs : List Nat) : En := ⟨backL ρ.sl ρ0.sl vs, ρ.pa⟩
theorem backL_len (l l0 : List Sl) : ∀ vs, (backL l l0 vs).length = l.length
  | [] => rfl
  | v :: vs => by unfold backL; rw [List.length_set, backL_len l l0 vs]
theorem backL_get {l l0 : List Sl} {i : Nat} {s : Sl} : ∀ {vs : List Nat}, (backL l l0 vs)[i]? = some s → (i ∈ vs ∧ s = l0.getD i .no) ∨ (l[i]? = some s ∧ i ∉ vs)
  | [], h => .inr ⟨h, by simp⟩
  | v :: vs, h => by
    unfold backL at h
    by_cases q : v = i
    · subst q
      have lt : v < ((backL l l0 vs).set v (l0.getD v .no)).length := (List.getElem?_eq_some_iff.mp h).1
      rw [List.length_set] at lt
      rw [List.getElem?_set_self lt] at h
      cases h
      exact .inl ⟨by simp, rfl⟩
    · rw [List.getElem?_set_ne q] at h
      rcases backL_get h with ⟨z, w⟩ | ⟨z, w⟩
      · exact .inl ⟨by simp [z], w⟩
      · exact .inr ⟨z, by simp only [List.mem_cons, not_or]; exact ⟨fun e => q e.symm, w⟩⟩
theorem Sr.back {B B1 F H F1 H1 : Hp} {σ : St} {ρ ρ0 : En} {ex ex1 : List Addr} (S : Sr G B ex F H (L2.wipe σ vs) ρ) (S0 : Sr G B1 ex1 F1 H1 σ ρ0) (s : Same F1 F) (hc : calmAt ρ0 vs) : Sr G B ex F H σ (ρ.back ρ0 vs) := by
  obtain ⟨ad, h1, h2, h3⟩ := S.sl
  obtain ⟨ad0, k1, k2, k3⟩ := S0.sl
  have noOwn : ∀ i o, i ∈ vs → (Sl.own o) ≠ ρ0.sl.getD i .no := fun i o hi e => by
    rw [List.getD_eq_getElem?_getD] at e
    cases q : ρ0.sl[i]? with
    | none => rw [q] at e; cases e
    | some t =>
      rw [q] at e
      have e' : Sl.own o = t := e
      subst e'
      exact hc i hi o q
  refine ⟨S.f0, S.gb, S.fn, S.fh, S.bh, S.dom, by show (backL ρ.sl ρ0.sl vs).length = _; rw [backL_len, S.len, L2.wipe_length], S.xf, S.pl, S.par, S.pf, S.pd, ad, fun i t hs => ?_, fun i o hs => ?_, fun i j o u hi hj => ?_⟩
  · rcases backL_get (show (backL ρ.sl ρ0.sl vs)[i]? = some t from hs) with ⟨e, z⟩ | ⟨e, n⟩
    · rw [List.getD_eq_getElem?_getD] at z
      cases q : ρ0.sl[i]? with
      | none => rw [q] at z; have z' : t = .no := z; subst z'; trivial
      | some u =>
        rw [q] at z
        have z' : t = u := z
        subst z'
        have w := k1 i t q
        cases t with
        | no => trivial
        | d x =>
          obtain ⟨v, e1, r⟩ := w
          exact ⟨v, e1, r.mono s⟩
        | own o => exact absurd q (hc i e o)
        | par k => exact w
        | pin a => exact w
        | xn a dd y => obtain ⟨e1, v1, e2, e3⟩ := w; exact ⟨e1, v1, s _ _ e2, e3.mono s⟩
    · have w := h1 i t e
      rw [wipe_get n] at w
      exact w
  · rcases backL_get (show (backL ρ.sl ρ0.sl vs)[i]? = some (.own o) from hs) with ⟨e, z⟩ | ⟨e, n⟩
    · exact absurd z (noOwn i o e)
    · exact h2 i o e
  · rcases backL_get (show (backL ρ.sl ρ0.sl vs)[i]? = some (.own o) from hi) with ⟨e, z⟩ | ⟨e, n⟩
    · exact absurd z (noOwn i o e)
    · rcases backL_get (show (backL ρ.sl ρ0.sl vs)[j]? = some (.own u) from hj) with ⟨e', z'⟩ | ⟨e', n'⟩
      · exact absurd z' (noOwn j u e')
      · exact h3 i j o u e e'
end
end DL

/-! text DLg -/
set_option Elab.async false
set_option linter.all false
set_option maxRecDepth 100000
set_option maxHeartbeats 4000000
namespace DL
open PySem PySem.Spec PyProof.Rows L2 RZ
section
variable {G : Gx} {B F H : Hp} {σ : St} {ρ : En} {ex : List Addr} {p : Addr} {o o' : HO}
/-- a new thing beside the slots, held as it is -/
theorem Sr.pin (S : Sr G B ex F H σ ρ) (hp : H p = none) : Sr G (upd B p o) (p :: ex) F (upd H p o) σ ρ := by
  have S2 := S.newX (o := o) hp
  have bp := S.bfree hp
  obtain ⟨ad, h1, h2, h3⟩ := S2.sl
  refine ⟨S2.f0, S.gb.trans (same_new bp), S2.fn, S2.fh, fun b u e => ?_, S2.dom, S2.len, S2.xf, S2.pl, S2.par, fun ap hap x hx => ?_, S2.pd, ad, fun i s hs => ?_, h2, h3⟩
  · by_cases q : b = p
    · subst q; rw [upd_same] at e ⊢; exact e
    · rw [upd_ne q] at e; exact S2.bh _ _ e
  · obtain ⟨q1, q2, q3⟩ := S2.pf ap hap x hx
    exact ⟨q1, by rw [upd_ne (fun w => q3 (by rw [w]; exact S.dom _ hp))]; exact q2, q3⟩
  · have q := h1 i s hs
    cases s with
    | no => trivial
    | d x => exact q
    | own u =>
      obtain ⟨a, e, r, z⟩ := q
      refine ⟨a, e, r, fun x hx => ⟨(z x hx).1, (z x hx).2.1, ?_⟩⟩
      rw [upd_ne (fun w => h2 i u hs x hx (by rw [w]; simp))]
      exact (z x hx).2.2
    | par k => exact q
    | pin a => exact q
    | xn a dd y => exact q
/-- .. changed -/
theorem Sr.pinSet (S : Sr G (upd B p o) (p :: ex) F H σ ρ) (gp : G.B0 p = none) (hb : ∀ b u, b ≠ p → B b = some u → H b = some u) : Sr G (upd B p o') (p :: ex) F (upd H p o') σ ρ := by
  obtain ⟨ad, h1, h2, h3⟩ := S.sl
  have hpF : F p = none := (S.xf p (by simp)).1
  have hpH : H p ≠ none := (S.xf p (by simp)).2
  refine ⟨S.f0, fun b u e => ?_, S.fn, fun b u e => ?_, fun b u e => ?_, fun a h => ?_, S.len, fun x hx => ⟨(S.xf x hx).1, ?_⟩, S.pl, fun k ap ob q1 q2 => (S.par k ap ob q1 q2).stay (Same.refl F) fun x hx => ?_, fun ap hap x hx => ?_, S.pd, ad, fun i s hs => ?_, h2, h3⟩
  · have q := S.gb b u e
    have ne := ne_of_none e gp
    rw [upd_ne ne] at q ⊢
    exact q
  · rw [upd_ne (ne_of_none e hpF)]; exact S.fh _ _ e
  · by_cases q : b = p
    · subst q; rw [upd_same] at e ⊢; exact e
    · rw [upd_ne q] at e ⊢; exact hb _ _ q e
  · by_cases q : a = p
    · subst q; rw [upd_same] at h; cases h
    · rw [upd_ne q] at h; exact S.dom a h
  · by_cases q : x = p
    · subst q; rw [upd_same]; simp
    · rw [upd_ne q]; exact (S.xf x hx).2
  · have hap := List.mem_of_getElem? q1
    have q := (S.pf ap hap x hx).2.1
    rw [upd_ne]
    intro w
    subst w
    rw [upd_same] at q; cases q
  · obtain ⟨q1, q2, q3⟩ := S.pf ap hap x hx
    have ne : x ≠ p := fun w => by subst w; rw [upd_same] at q2; cases q2
    rw [upd_ne ne] at q2 ⊢
    exact ⟨q1, q2, q3⟩
  · have q := h1 i s hs
    cases s with
    | no => trivial
    | d x => exact q
    | own u =>
      obtain ⟨a, e, r, z⟩ := q
      have ne : ∀ x ∈ ad i, x ≠ p := fun x hx w => h2 i u hs x hx (by rw [w]; simp)
      refine ⟨a, e, r.stay (Same.refl F) fun x hx => by rw [upd_ne (ne x hx)], fun x hx => ⟨(z x hx).1, (z x hx).2.1, ?_⟩⟩
      have w := (z x hx).2.2
      rw [upd_ne (ne x hx)] at w ⊢
      exact w
    | par k => exact q
    | pin a => exact q
    | xn a dd y => exact q
end
section
variable {X : Cx} {G : Gx} {pos : Pos} {elt tg iter : Expr} {ifs : List Expr} {scope : Scope} {own : List (Str × Nat)} {ti : TId} {g : TGd} {js : List Nat} {tt : TTd} {te : TEd}
def PTsd (X : Cx) (G : Gx) (ifs : List Expr) (t : TTd) : Prop := ∃ tt, PTs X ifs tt ∧ SndT G tt t
def dYes : TTd := fun ρ Q => Q true ρ
theorem dts_nil : PTsd X G [] dYes := ⟨_, pts_nil, fun B ex F H σ ρ Q Qh S q k => k _ _ ⟨F, ρ, Same.refl F, S, q⟩⟩
theorem dts_one {c : Expr} {t : TTd} (h : PTd X G c t) : PTsd X G [c] t := by
  obtain ⟨w, h1, h2⟩ := h
  exact ⟨w, pts_one h1, h2⟩
/-- what a comprehension makes -/
def dLcW (ti : TId) (g : TGd) (tt : TTd) (te : TEd) (vs : List Nat) (K : List D → En → Prop) : En → Prop := fun ρ => ti ρ fun xs ρ1 => calmAt ρ1 vs ∧ ∃ Pv : Nat → List D → En → Prop, Pv 0 [] (ρ1.wipe vs) ∧
  (∀ i d acc ρ, xs[i]? = some d → Pv i acc ρ → g d ρ fun ρ2 => tt ρ2 fun b ρ3 => if b = true then te ρ3 fun y ρ4 => acc.length < sizeLine ∧ Pv (i + 1) (acc ++ [y]) (ρ4.wipe vs) else Pv (i + 1) acc (ρ3.wipe vs)) ∧
  ∀ acc ρ, Pv xs.length acc ρ → K acc (ρ.back ρ1 vs)
theorem wipe_wipe {σ : St} (vs : List Nat) : L2.wipe (L2.wipe σ vs) vs = L2.wipe σ vs := by
  have : ∀ ws : List Nat, (∀ j ∈ ws, j ∈ vs) → L2.wipe (L2.wipe σ vs) ws = L2.wipe σ vs := by
    intro ws
    induction ws with
    | nil => intro _; rfl
    | cons w ws ih =>
      intro h
      have e := ih fun j hj => h j (by simp [hj])
      show (L2.wipe (L2.wipe σ vs) ws).set w none = _
      rw [e]
      have hw : w ∈ vs := h w (by simp)
      have go : ∀ (us : List Nat), w ∈ us → (L2.wipe σ us).set w none = L2.wipe σ us := by
        intro us
        induction us with
        | nil => intro q; cases q
        | cons u us ih2 =>
          intro q
          unfold L2.wipe
          by_cases z : w = u
          · subst z; rw [List.set_set]
          · have q' : w ∈ us := by
              rcases List.mem_cons.mp q with e | e
              · exact absurd e z
              · exact e
            rw [List.set_comm _ _ (fun e => z e.symm), ih2 q']
      exact go vs hw
  exact this vs fun _ h => h
theorem snd_lc {wi : TI} {wg : TG} {wt : TT} {we : TE} {vs : List Nat} (a2 : SndI G wi ti) (b2 : SndG G wg g js) (c2 : SndT G wt tt) (e2 : SndE G we te) (hj : ∀ j ∈ js, j ∈ vs)
    {B : Hp} {ex : List Addr} {F H : Hp} {σ : St} {ρ : En} {K : List D → En → Prop} {Qh : VK} (S : Sr G B ex F H σ ρ) (q : dLcW ti g tt te vs K ρ)
    (k : ∀ p H' F' accv acc ρ', Same F F' → Sr G B (p :: ex) F' H' σ ρ' → H' p = some (.lst accv) → F' p = none → G.H0 p = none → B p = none → p ∉ ex → AtL G.K F' accv acc → K acc ρ' → Qh (.ref p) H') : tLc wi wg wt we vs σ H Qh := by
  refine a2 B ex F H σ ρ _ _ S q ?_
  rintro J H1 F1 xs ρ1 s1 S1 ⟨Gd, Y, w, hG, hY⟩ ⟨hc, Pv, p0, pt, pe⟩
  intro p hp
  have bp := S1.bfree hp
  have gp : G.B0 p = none := S1.gb.free bp
  have pex : p ∉ ex := fun hm => (S1.xf p hm).2 hp
  have W := lc_it w (g := wg) (tt := wt) (te := we) (vs := vs) (σ := σ) (H1 := H1) (D := p) (Qd := fun H' => Qh (.ref p) H')
    (fun i H' => ∃ F' ρ' accv acc, Same F1 F' ∧ Sr G (upd B p (.lst accv)) (p :: ex) F' H' (L2.wipe σ vs) ρ' ∧ AtL G.K F' accv acc ∧ Pv i acc ρ') ?_ ?_ ?_ ?_
  · exact W
  · exact ⟨F1, ρ1.wipe vs, [], [], Same.refl F1, (S1.pin hp).wipe vs, .nil, p0⟩
  · rintro i H' _ ⟨F', ρ', accv, acc, s', S', _, _⟩
    exact hG F' H' s' S'.fh
  · rintro i v H' H2 hi ⟨F', ρ', accv, acc, s', S', r', p'⟩ y
    obtain ⟨F2, d, gr, hd, r⟩ := hY i F' H' v H2 s' S'.fh hi y
    refine b2 _ _ F2 H2 _ ρ' v d _ _ (S'.of_grow gr) r (pt i d acc ρ' hd p') ?_
    intro σ3 F3 H3 ρ3 s3 S3 w3 q3
    have w3' : L2.wipe σ3 vs = L2.wipe σ vs := by rw [w3 vs hj, wipe_wipe]
    refine ⟨w3', ?_⟩
    refine c2 _ _ F3 H3 σ3 ρ3 _ _ S3 q3 ?_
    rintro b H4 ⟨F4, ρ4, s4, S4, q4⟩
    have r4 : AtL G.K F4 accv acc := ((r'.mono gr.f).mono s3).mono s4
    cases b with
    | false =>
      rw [if_neg Bool.false_ne_true] at q4 ⊢
      refine ⟨F4, ρ4.wipe vs, accv, acc, ((s'.trans gr.f).trans s3).trans s4, ?_, r4, q4⟩
      rw [← w3']
      exact S4.wipe vs
    | true =>
      rw [if_pos rfl] at q4 ⊢
      refine e2 _ _ F4 H4 σ3 ρ4 _ _ S4 q4 ?_
      rintro y H5 ⟨F5, d5, ρ5, s5, S5, r5, q5⟩
      have hl : H5 p = some (.lst accv) := S5.bh _ _ upd_same
      have r6 : AtL G.K F5 accv acc := r4.mono s5
      refine ⟨accv, hl, by rw [r6.length]; exact q5.1, F5, ρ5.wipe vs, accv ++ [y], acc ++ [d5], (((s'.trans gr.f).trans s3).trans s4).trans s5, ?_, r6.append (.cons r5 .nil), q5.2⟩
      rw [← w3']
      exact (S5.pinSet (o' := .lst (accv ++ [y])) gp (fun b u ne e => S5.bh _ _ (by rw [upd_ne ne]; exact e))).wipe vs
  · rintro H' ⟨F', ρ', accv, acc, s', S', r', p'⟩
    have hl : H' p = some (.lst accv) := S'.bh _ _ upd_same
    have S2 : Sr G B (p :: ex) F' H' σ (ρ'.back ρ1 vs) := (S'.weak (same_new bp) S1.gb (fun _ h => h)).back S1 s' hc
    exact k p H' F' accv acc _ (s1.trans s') S2 hl (S'.xf p (by simp)).1 (S1.dom _ hp) bp pex r' (pe acc ρ' p')
def dLc (ti : TId) (g : TGd) (tt : TTd) (te : TEd) (vs : List Nat) : TEd := fun ρ Q => dLcW ti g tt te vs (fun acc ρ' => Q (.lst acc) ρ') ρ
def dLcO (ti : TId) (g : TGd) (tt : TTd) (te : TEd) (vs : List Nat) : TOd := fun ρ Q => dLcW ti g tt te vs (fun acc ρ' => Q (.lst acc) ρ') ρ
abbrev BlkD (X : Cx) (scope : Scope) (P : Cx → Prop) : Prop := ∀ (s : Shared) (H : Hp) (C : Addr) (cl : List (Str × Addr)) (fp : List Addr), P (X.blk s H scope (compEnvC scope cl C X.env) fp)
theorem snd_lcE {wi : TI} {wg : TG} {wt : TT} {we : TE} {vs : List Nat} (a2 : SndI G wi ti) (b2 : SndG G wg g js) (c2 : SndT G wt tt) (e2 : SndE G we te) (hj : ∀ j ∈ js, j ∈ vs) : SndE G (tLc wi wg wt we vs) (dLc ti g tt te vs) := by
  intro B ex F H σ ρ Q Qh S q k
  refine snd_lc a2 b2 c2 e2 hj S q ?_
  intro p H' F' accv acc ρ' s S' hp fp h0 bp pex r q'
  obtain ⟨F2, s2, S2, a3⟩ := Sr.still (fp := [p]) (o := .lst acc) S' ⟨rfl, accv, hp, r⟩ (fun x hx => by rw [List.mem_singleton] at hx; subst hx; exact ⟨fp, h0, bp⟩) (fun x hx hm => by rw [List.mem_singleton] at hm; subst hm; exact pex hx) rfl
  exact k _ _ ⟨F2, _, ρ', s.trans s2, S2, a3, q'⟩
theorem snd_lcO {wi : TI} {wg : TG} {wt : TT} {we : TE} {vs : List Nat} (a2 : SndI G wi ti) (b2 : SndG G wg g js) (c2 : SndT G wt tt) (e2 : SndE G we te) (hj : ∀ j ∈ js, j ∈ vs) : SndO G (tLc wi wg wt we vs) (dLcO ti g tt te vs) := by
  intro B ex F H σ ρ Q Qh S q k
  refine snd_lc a2 b2 c2 e2 hj S q ?_
  intro p H' F' accv acc ρ' s S' hp fp h0 bp pex r q'
  exact k _ _ ⟨F', p, [p], .lst acc, ρ', s, S', rfl, ⟨rfl, accv, hp, r⟩, fun x hx => by rw [List.mem_singleton] at hx; subst hx; exact ⟨fp, h0, bp⟩, fun x hx hm => by rw [List.mem_singleton] at hm; subst hm; exact pex hx, q'⟩
theorem blk_e (h : BlkD X scope (fun Y => PEd Y G elt te)) : ∃ we, BlkD X scope (fun Y => PE Y elt we) ∧ SndE G we te := by
  refine ⟨fun σ H Q => ∀ s H' C cl fp, (h s H' C cl fp).choose σ H Q, fun s H C cl fp => ⟨fun pins s' σ H' Q I q => (h s H C cl fp).choose_spec.1.run pins s' σ H' Q I (q s H C cl fp)⟩, ?_⟩
  intro B ex F H σ ρ Q Qh S q k s H' C cl fp
  exact (h s H' C cl fp).choose_spec.2 B ex F H σ ρ Q Qh S q k
theorem blk_t (h : BlkD X scope (fun Y => PTsd Y G ifs tt)) : ∃ we, BlkD X scope (fun Y => PTs Y ifs we) ∧ SndT G we tt := by
  refine ⟨fun σ H Q => ∀ s H' C cl fp, (h s H' C cl fp).choose σ H Q, fun s H C cl fp => ⟨fun pins s' σ H' Q I q => (h s H C cl fp).choose_spec.1.run pins s' σ H' Q I (q s H C cl fp)⟩, ?_⟩
  intro B ex F H σ ρ Q Qh S q k s H' C cl fp
  exact (h s H' C cl fp).choose_spec.2 B ex F H σ ρ Q Qh S q k
theorem blk_g (h : BlkD X scope (fun Y => PGd Y G tg g js)) : ∃ we, BlkD X scope (fun Y => PG Y tg we) ∧ SndG G we g js := by
  refine ⟨fun v σ H Q => ∀ s H' C cl fp, (h s H' C cl fp).choose v σ H Q, fun s H C cl fp => ⟨fun pins s' σ H' v u Q I r q => (h s H C cl fp).choose_spec.1.run pins s' σ H' v u Q I r (q s H C cl fp)⟩, ?_⟩
  intro B ex F H σ ρ v d Q Qh S r q k s H' C cl fp
  exact (h s H' C cl fp).choose_spec.2 B ex F H σ ρ v d Q Qh S r q k
theorem lc_parts (hi : PId X G tg iter ti) (hg : BlkD X scope (fun Y => PGd Y G tg g js)) (ht : BlkD X scope (fun Y => PTsd Y G ifs tt)) (he : BlkD X scope (fun Y => PEd Y G elt te)) (hj : ∀ j ∈ js, j ∈ own.map (·.2)) :
    ∃ wi wg wt we, PI X tg iter wi ∧ BlkD X scope (fun Y => PG Y tg wg) ∧ BlkD X scope (fun Y => PTs Y ifs wt) ∧ BlkD X scope (fun Y => PE Y elt we) ∧
      SndE G (tLc wi wg wt we (own.map (·.2))) (dLc ti g tt te (own.map (·.2))) ∧ SndO G (tLc wi wg wt we (own.map (·.2))) (dLcO ti g tt te (own.map (·.2))) := by
  obtain ⟨wi, a1, a2⟩ := hi
  obtain ⟨wg, b1, b2⟩ := blk_g hg
  obtain ⟨wt, c1, c2⟩ := blk_t ht
  obtain ⟨we, e1, e2⟩ := blk_e he
  exact ⟨wi, wg, wt, we, a1, b1, c1, e1, snd_lcE a2 b2 c2 e2 hj, snd_lcO a2 b2 c2 e2 hj⟩
theorem d_lc (hc : X.calm = true) (hN : X.N.Nodup) (hi : PId X G tg iter ti) (ok : BlkOk X.N X.env.scope scope own) (hg : BlkD X scope (fun Y => PGd Y G tg g js)) (ht : BlkD X scope (fun Y => PTsd Y G ifs tt)) (he : BlkD X scope (fun Y => PEd Y G elt te))
    (hj : ∀ j ∈ js, j ∈ own.map (·.2)) (hs : ∀ x, foldedSetIterable iter X.env x = pure x := by intro _; rfl) : PEd X G (.ListComp elt [⟨tg, iter, ifs, 0⟩] scope pos) (dLc ti g tt te (own.map (·.2))) := by
  obtain ⟨wi, wg, wt, we, h1, h2, h3, h4, h5, _⟩ := lc_parts hi hg ht he hj
  exact ⟨_, pe_lc hc hN h1 ok h2 h3 h4 hs, h5⟩
theorem d_lcO (hc : X.calm = true) (hN : X.N.Nodup) (hi : PId X G tg iter ti) (ok : BlkOk X.N X.env.scope scope own) (hg : BlkD X scope (fun Y => PGd Y G tg g js)) (ht : BlkD X scope (fun Y => PTsd Y G ifs tt)) (he : BlkD X scope (fun Y => PEd Y G elt te))
    (hj : ∀ j ∈ js, j ∈ own.map (·.2)) (hs : ∀ x, foldedSetIterable iter X.env x = pure x := by intro _; rfl) : POd X G (.ListComp elt [⟨tg, iter, ifs, 0⟩] scope pos) (dLcO ti g tt te (own.map (·.2))) := by
  obtain ⟨wi, wg, wt, we, h1, h2, h3, h4, _, h5⟩ := lc_parts hi hg ht he hj
  exact ⟨_, pe_lc hc hN h1 ok h2 h3 h4 hs, h5⟩
/-- y = [..] -/
theorem ds_setLc (i : Nat) {y : Str} {py spos : Pos} (hc : X.calm = true) (hN : X.N.Nodup) (hy : X.N[i]? = some y) (hyl : X.env.scope.names.lookup y = some .local) (hsw : swapsWith (.ListComp elt [⟨tg, iter, ifs, 0⟩] scope pos) (some (.Name y py)) spos.line X.env = pure true)
    (hi : PId X G tg iter ti) (ok : BlkOk X.N X.env.scope scope own) (hg : BlkD X scope (fun Y => PGd Y G tg g js)) (ht : BlkD X scope (fun Y => PTsd Y G ifs tt)) (he : BlkD X scope (fun Y => PEd Y G elt te))
    (hj : ∀ j ∈ js, j ∈ own.map (·.2)) (hs : ∀ x, foldedSetIterable iter X.env x = pure x := by intro _; rfl) : PSd X G (.Assign [.Name y py] (.ListComp elt [⟨tg, iter, ifs, 0⟩] scope pos) spos) (dSet i (dLc ti g tt te (own.map (·.2)))) := by
  obtain ⟨wi, wg, wt, we, h1, h2, h3, h4, h5, _⟩ := lc_parts hi hg ht he hj
  refine ⟨_, ps_setLc hc hN hy hyl hsw h1 ok h2 h3 h4 hs, fun B F H σ ρ Dd D' S q k => h5 B [] F H σ ρ _ _ S q ?_⟩
  rintro v H1 ⟨F1, d, ρ1, s1, S1, r1, q1⟩
  exact k.nx _ _ ⟨F1, _, s1, S1.set i r1, q1⟩
theorem ds_setLcO (i : Nat) {y : Str} {py spos : Pos} (hc : X.calm = true) (hN : X.N.Nodup) (hy : X.N[i]? = some y) (hyl : X.env.scope.names.lookup y = some .local) (hsw : swapsWith (.ListComp elt [⟨tg, iter, ifs, 0⟩] scope pos) (some (.Name y py)) spos.line X.env = pure true)
    (hi : PId X G tg iter ti) (ok : BlkOk X.N X.env.scope scope own) (hg : BlkD X scope (fun Y => PGd Y G tg g js)) (ht : BlkD X scope (fun Y => PTsd Y G ifs tt)) (he : BlkD X scope (fun Y => PEd Y G elt te))
    (hj : ∀ j ∈ js, j ∈ own.map (·.2)) (hs : ∀ x, foldedSetIterable iter X.env x = pure x := by intro _; rfl) : PSd X G (.Assign [.Name y py] (.ListComp elt [⟨tg, iter, ifs, 0⟩] scope pos) spos) (dSetO i (dLcO ti g tt te (own.map (·.2)))) := by
  obtain ⟨wi, wg, wt, we, h1, h2, h3, h4, _, h5⟩ := lc_parts hi hg ht he hj
  refine ⟨_, ps_setLc hc hN hy hyl hsw h1 ok h2 h3 h4 hs, fun B F H σ ρ Dd D' S q k => h5 B [] F H σ ρ _ _ S q ?_⟩
  rintro v H1 ⟨F1, p, fp, o, ρ1, s1, S1, ev, r1, z1, dj, q1⟩
  subst ev
  exact k.nx _ _ ⟨F1, _, s1, S1.setO i r1 z1 dj, q1⟩
/-- in a block nothing is let out -/
theorem takes_none {Y : Cx} : Takes Y (wish G (fun _ _ => False)) := takes0.imp fun _ _ _ _ ⟨_, _, _, _, _, _, z⟩ => z
end
end DL

/-! text DLh -/
set_option Elab.async false
set_option linter.all false
set_option maxRecDepth 100000
set_option maxHeartbeats 4000000
namespace DL
open PySem PySem.Spec PyProof.Rows L2 RZ
section
variable {X : Cx} {K : PySem.W.Frag}
theorem CallRd.or {f : Value} {r r' : RLd} (h : CallRd X K f r) (h' : CallRd X K f r') : CallRd X K f (fun x Q => r x Q ∨ r' x Q) := by
  obtain ⟨u, a1, a2⟩ := h
  obtain ⟨w, b1, b2⟩ := h'
  refine ⟨fun x H Q => u x H Q ∨ w x H Q, CallR.or a1 b1, fun F H x dx Q Qd s r z k => ?_⟩
  rcases z with z | z
  · exact .inl (a2 F H x dx Q Qd s r z k)
  · exact .inr (b2 F H x dx Q Qd s r z k)
theorem CallRd.imp {f : Value} {r r' : RLd} (h : CallRd X K f r) (i : ∀ x Q, r' x Q → r x Q) : CallRd X K f r' := by
  obtain ⟨u, a1, a2⟩ := h
  exact ⟨u, a1, fun F H x dx Q Qd s r z k => a2 F H x dx Q Qd s r (i _ _ z) k⟩
/-! ### isinstance -/
def tyN : D → Option String
  | .non => some "NoneType"
  | .bl _ => some "bool"
  | .int _ => some "int"
  | .str _ => some "str"
  | .lst _ => some "list"
  | .tup _ => some "tuple"
  | .dic _ => some "dict"
  | _ => none
/-- what is asked of a class whose instances are handed to isinstance -/
structure InsK (K : PySem.W.Frag) (C : Addr) : Prop where
  cl : Cls K C
  ha : PySem.W.findIn K (.ref C) "__class__" = some (some (.builtin "object.__class__"))
  hn : PySem.W.specialIn K (.builtin "object.__class__") "__get__" = some (some (.builtin "getset_descriptor.__get__"))
  tk : PySem.W.takesIn K (.builtin "object.__class__") = some true
  mo : PySem.W.mroIn K C (.type "object") = some true
/-- the types of data -/
inductive TyD (K : PySem.W.Frag) : D → Value → Prop where
  | b {x : D} {n : String} (h : tyN x = some n) : TyD K x (.type n)
  | i {C : Addr} {fs : List (Str × D)} (h : InsK K C) : TyD K (.ins C fs) (.ref C)
theorem TyD.ty {F H : Hp} {x : V} {d : D} {t : Value} (h : TyD K d t) (s : Same F H) (r : At K F x d) : TyX K H x t := by
  cases h with
  | b h =>
    cases r with
    | non => cases h; exact .base .non
    | bl b => cases h; exact .base (.bl b)
    | int b => cases h; exact .base (.int b)
    | str b => cases h; exact .base (.str b)
    | lst e r => cases h; exact .base (.lst (s _ _ e))
    | dic e k r => cases h; exact .base (.dK (s _ _ e))
    | tup e r =>
      cases h
      rcases sqt_same s e with (e | ⟨o, e⟩) | ⟨o, its, n, e, c, _⟩
      · exact .base (.tup e)
      · exact .fTuple e
      · exact .kTuple e c
    | _ => cases h
  | i h =>
    cases r with
    | ins e e2 n r => exact .base (.ins (s _ _ e) h.cl h.ha h.hn h.tk h.mo)
inductive ClsD : D → Value → Prop where
  | ty (n : String) : ClsD (.ty n) (.type n)
  | own (C : Addr) : ClsD (.cls C) (.ref C)
def rIsiD (K : PySem.W.Frag) : RLd := fun ds Q => ∃ x c t u b, ds = [x, c] ∧ ClsD c u ∧ TyD K x t ∧ PySem.W.kitOne K t u = some b ∧ Q (.bl b)
theorem c_isi (hK : K = X.K := by rfl) : CallRd X K (.builtin "isinstance") (rIsiD K) := by
  subst hK
  refine ⟨_, call_isi, fun F H xs ds Q Qd s r z k => ?_⟩
  obtain ⟨x, c, t, u, b, rfl, hc, ht, hb, qd⟩ := z
  cases r with
  | cons r1 r =>
    cases r with
    | cons r2 r =>
      cases r
      refine ⟨_, _, t, u, b, rfl, ?_, ht.ty s r1, hb, k _ _ _ _ (Grow.refl s) (.bl b) qd⟩
      cases hc with
      | ty n => cases r2; exact .ty n
      | own C => cases r2; exact .own C
/-! ### len, int, abs, min, max, all, any, list, tuple, str, dict -/
def rLen : RLd := fun ds Q => match ds with
  | [.lst l] => Q (.int l.length)
  | [.tup l] => Q (.int l.length)
  | [.dic l] => Q (.int l.length)
  | [.str z] => z.length ≤ sizeLine ∧ Q (.int z.length)
  | _ => False
theorem c_len (hK : K = X.K := by rfl) : CallRd X K (.builtin "len") rLen := by
  subst hK
  have h1 : CallRd X X.K (.builtin "len") (fun ds Q => ∃ l, (ds = [.lst l] ∨ ds = [.tup l]) ∧ Q (.int l.length)) := by
    refine ⟨_, call_len_seq, fun F H xs ds Q Qd s r z k => ?_⟩
    obtain ⟨l, hl, qd⟩ := z
    rcases hl with rfl | rfl
    · cases r with
      | cons r1 r =>
        cases r
        cases r1 with
        | lst e r => exact ⟨_, _, rfl, .inl (SqL.of (s _ _ e)), by rw [r.length]; exact k _ _ _ _ (Grow.refl s) (.int _) qd⟩
    · cases r with
      | cons r1 r =>
        cases r
        cases r1 with
        | tup e r => exact ⟨_, _, rfl, .inr (sqt_same s e), by rw [r.length]; exact k _ _ _ _ (Grow.refl s) (.int _) qd⟩
  have h2 : CallRd X X.K (.builtin "len") (fun ds Q => ∃ l : List (Key × D), ds = [.dic l] ∧ Q (.int l.length)) := by
    refine ⟨_, call_lenD, fun F H xs ds Q Qd s r z k => ?_⟩
    obtain ⟨l, rfl, qd⟩ := z
    cases r with
    | cons r1 r =>
      cases r
      cases r1 with
      | dic e n r =>
        have hl := congrArg List.length n
        rw [List.length_map, List.length_map] at hl
        exact ⟨_, _, rfl, s _ _ e, by rw [hl]; exact k _ _ _ _ (Grow.refl s) (.int _) qd⟩
  have h3 : CallRd X X.K (.builtin "len") (fun ds Q => ∃ z : Str, ds = [.str z] ∧ z.length ≤ sizeLine ∧ Q (.int z.length)) := by
    refine ⟨_, call_len_str, fun F H xs ds Q Qd s r z k => ?_⟩
    obtain ⟨l, rfl, hl, qd⟩ := z
    cases r with
    | cons r1 r =>
      cases r
      cases r1
      exact ⟨_, rfl, hl, k _ _ _ _ (Grow.refl s) (.int _) qd⟩
  refine (h1.or (h2.or h3)).imp fun x Q q => ?_
  unfold rLen at q
  split at q
  · exact .inl ⟨_, .inl rfl, q⟩
  · exact .inl ⟨_, .inr rfl, q⟩
  · exact .inr (.inl ⟨_, rfl, q⟩)
  · exact .inr (.inr ⟨_, rfl, q.1, q.2⟩)
  · exact q.elim
def rInt : RLd := fun ds Q => match ds with
  | [.int i] => Q (.int i)
  | [.bl b] => Q (.int (if b then 1 else 0))
  | [.str a] => ∃ n, PySem.intText? a = some n ∧ a.length ≤ 640 ∧ Q (.int n)
  | _ => False
theorem c_int : CallRd X K (.type "int") rInt := by
  have h1 : CallRd X K (.type "int") (fun ds Q => (∃ i, ds = [.int i] ∧ Q (.int i)) ∨ ∃ b, ds = [.bl b] ∧ Q (.int (if b then 1 else 0))) := by
    refine ⟨_, call_int1, fun F H xs ds Q Qd s r z k => ?_⟩
    rcases z with ⟨i, rfl, qd⟩ | ⟨b, rfl, qd⟩
    · cases r with
      | cons r1 r =>
        cases r
        cases r1
        exact .inl ⟨_, rfl, k _ _ _ _ (Grow.refl s) (.int _) qd⟩
    · cases r with
      | cons r1 r =>
        cases r
        cases r1
        exact .inr ⟨_, rfl, k _ _ _ _ (Grow.refl s) (.int _) qd⟩
  have h2 : CallRd X K (.type "int") (fun ds Q => ∃ a n, ds = [.str a] ∧ PySem.intText? a = some n ∧ a.length ≤ 640 ∧ Q (.int n)) := by
    refine ⟨_, call_int_str, fun F H xs ds Q Qd s r z k => ?_⟩
    obtain ⟨a, n, rfl, h1, h2, qd⟩ := z
    cases r with
    | cons r1 r =>
      cases r
      cases r1
      exact ⟨_, _, rfl, h1, h2, k _ _ _ _ (Grow.refl s) (.int _) qd⟩
  refine (h1.or h2).imp fun x Q q => ?_
  unfold rInt at q
  split at q
  · exact .inl (.inl ⟨_, rfl, q⟩)
  · exact .inl (.inr ⟨_, rfl, q⟩)
  · obtain ⟨n, a, b, c⟩ := q
    exact .inr ⟨_, n, rfl, a, b, c⟩
  · exact q.elim
def rAbs : RLd := fun ds Q => match ds with
  | [.int i] => Q (.int (if i < 0 then -i else i))
  | _ => False
theorem c_abs : CallRd X K (.builtin "abs") rAbs := by
  refine ⟨_, call_abs, fun F H xs ds Q Qd s r z k => ?_⟩
  unfold rAbs at z
  split at z
  · cases r with
    | cons r1 r =>
      cases r
      cases r1
      exact ⟨_, rfl, k _ _ _ _ (Grow.refl s) (.int _) z⟩
  · exact z.elim
/-- the least, the greatest of ints -/
def minI : List Int → Int
  | [] => 0
  | x :: xs => xs.foldl min x
def maxI : List Int → Int
  | [] => 0
  | x :: xs => xs.foldl max x
theorem foldl_min_le : ∀ (l : List Int) (x : Int), l.foldl min x ≤ x ∧ (∀ y ∈ l, l.foldl min x ≤ y) ∧ (l.foldl min x = x ∨ l.foldl min x ∈ l)
  | [], x => ⟨Int.le_refl x, fun y h => absurd h (by simp), .inl rfl⟩
  | a :: l, x => by
    obtain ⟨h1, h2, h3⟩ := foldl_min_le l (min x a)
    rw [List.foldl_cons]
    refine ⟨by omega, fun y hy => ?_, ?_⟩
    · rcases List.mem_cons.mp hy with e | e
      · subst e; omega
      · exact h2 y e
    · rcases h3 with e | e
      · rw [e]
        rcases Int.le_total x a with z | z
        · exact .inl (by omega)
        · exact .inr (by rw [show min x a = a by omega]; simp)
      · exact .inr (by simp [e])
theorem foldl_max_ge : ∀ (l : List Int) (x : Int), x ≤ l.foldl max x ∧ (∀ y ∈ l, y ≤ l.foldl max x) ∧ (l.foldl max x = x ∨ l.foldl max x ∈ l)
  | [], x => ⟨Int.le_refl x, fun y h => absurd h (by simp), .inl rfl⟩
  | a :: l, x => by
    obtain ⟨h1, h2, h3⟩ := foldl_max_ge l (max x a)
    rw [List.foldl_cons]
    refine ⟨by omega, fun y hy => ?_, ?_⟩
    · rcases List.mem_cons.mp hy with e | e
      · subst e; omega
      · exact h2 y e
    · rcases h3 with e | e
      · rw [e]
        rcases Int.le_total x a with z | z
        · exact .inr (by rw [show max x a = a by omega]; simp)
        · exact .inl (by omega)
      · exact .inr (by simp [e])
theorem minI_spec {l : List Int} (h : l ≠ []) : minI l ∈ l ∧ ∀ y ∈ l, minI l ≤ y := by
  cases l with
  | nil => exact absurd rfl h
  | cons x l =>
    obtain ⟨h1, h2, h3⟩ := foldl_min_le l x
    refine ⟨?_, fun y hy => ?_⟩
    · rcases h3 with e | e
      · show l.foldl min x ∈ x :: l
        rw [e]; simp
      · exact List.mem_cons_of_mem _ e
    · rcases List.mem_cons.mp hy with e | e
      · subst e; exact h1
      · exact h2 y e
theorem maxI_spec {l : List Int} (h : l ≠ []) : maxI l ∈ l ∧ ∀ y ∈ l, y ≤ maxI l := by
  cases l with
  | nil => exact absurd rfl h
  | cons x l =>
    obtain ⟨h1, h2, h3⟩ := foldl_max_ge l x
    refine ⟨?_, fun y hy => ?_⟩
    · rcases h3 with e | e
      · show l.foldl max x ∈ x :: l
        rw [e]; simp
      · exact List.mem_cons_of_mem _ e
    · rcases List.mem_cons.mp hy with e | e
      · subst e; exact h1
      · exact h2 y e
def rMin2 : RLd := fun ds Q => match ds with
  | [.int i, .int j] => Q (.int (min i j))
  | _ => False
def rMax2 : RLd := fun ds Q => match ds with
  | [.int i, .int j] => Q (.int (max i j))
  | _ => False
theorem c_min2 (hc : X.calm = true) : CallRd X K (.builtin "min") rMin2 := by
  refine ⟨_, call_min2 hc, fun F H xs ds Q Qd s r z k => ?_⟩
  unfold rMin2 at z
  split at z
  · rename_i i j
    cases r with
    | cons r1 r =>
      cases r with
      | cons r2 r =>
        cases r
        cases r1
        cases r2
        refine ⟨i, j, rfl, k _ _ _ _ (Grow.refl s) ?_ z⟩
        rw [show (if j < i then j else i) = min i j by split <;> omega]
        exact .int _
  · exact z.elim
theorem c_max2 (hc : X.calm = true) : CallRd X K (.builtin "max") rMax2 := by
  refine ⟨_, call_max2 hc, fun F H xs ds Q Qd s r z k => ?_⟩
  unfold rMax2 at z
  split at z
  · rename_i i j
    cases r with
    | cons r1 r =>
      cases r with
      | cons r2 r =>
        cases r
        cases r1
        cases r2
        refine ⟨i, j, rfl, k _ _ _ _ (Grow.refl s) ?_ z⟩
        rw [show (if j > i then j else i) = max i j by split <;> omega]
        exact .int _
  · exact z.elim
def rMinL : RLd := fun ds Q => ∃ ns : List Int, ds = [.lst (ns.map D.int)] ∧ ns ≠ [] ∧ Q (.int (minI ns))
def rMaxL : RLd := fun ds Q => ∃ ns : List Int, ds = [.lst (ns.map D.int)] ∧ ns ≠ [] ∧ Q (.int (maxI ns))
theorem c_minL (hc : X.calm = true) (hK : K = X.K := by rfl) : CallRd X K (.builtin "min") rMinL := by
  subst hK
  refine ⟨_, cr_min hc, fun F H xs ds Q Qd s r z k => ?_⟩
  obtain ⟨ns, rfl, hn, qd⟩ := z
  cases r with
  | cons r1 r =>
    cases r
    cases r1 with
    | lst e r =>
      rw [r.ints] at e
      refine ⟨_, ns, rfl, SqL.of (s _ _ e), List.length_pos_iff.mpr hn, fun m hm hle => ?_⟩
      obtain ⟨h1, h2⟩ := minI_spec hn
      have e : m = minI ns := by have := hle _ h1; have := h2 _ hm; omega
      subst e
      exact k _ _ _ _ (Grow.refl s) (.int _) qd
theorem c_maxL (hc : X.calm = true) (hK : K = X.K := by rfl) : CallRd X K (.builtin "max") rMaxL := by
  subst hK
  refine ⟨_, cr_max hc, fun F H xs ds Q Qd s r z k => ?_⟩
  obtain ⟨ns, rfl, hn, qd⟩ := z
  cases r with
  | cons r1 r =>
    cases r
    cases r1 with
    | lst e r =>
      rw [r.ints] at e
      refine ⟨_, ns, rfl, SqL.of (s _ _ e), List.length_pos_iff.mpr hn, fun m hm hle => ?_⟩
      obtain ⟨h1, h2⟩ := maxI_spec hn
      have e : m = maxI ns := by have := hle _ h1; have := h2 _ hm; omega
      subst e
      exact k _ _ _ _ (Grow.refl s) (.int _) qd
def rAllD : RLd := fun ds Q => ∃ bs : List Bool, ds = [.lst (bs.map D.bl)] ∧ Q (.bl (bs.all id))
def rAnyD : RLd := fun ds Q => ∃ bs : List Bool, ds = [.lst (bs.map D.bl)] ∧ Q (.bl (bs.any id))
theorem c_all (hc : X.calm = true) (hK : K = X.K := by rfl) : CallRd X K (.builtin "all") rAllD := by
  subst hK
  refine ⟨_, cr_all hc, fun F H xs ds Q Qd s r z k => ?_⟩
  obtain ⟨ns, rfl, qd⟩ := z
  cases r with
  | cons r1 r =>
    cases r
    cases r1 with
    | lst e r =>
      rw [r.bools] at e
      exact ⟨_, ns, rfl, SqL.of (s _ _ e), k _ _ _ _ (Grow.refl s) (.bl _) qd⟩
theorem c_any (hc : X.calm = true) (hK : K = X.K := by rfl) : CallRd X K (.builtin "any") rAnyD := by
  subst hK
  refine ⟨_, cr_any hc, fun F H xs ds Q Qd s r z k => ?_⟩
  obtain ⟨ns, rfl, qd⟩ := z
  cases r with
  | cons r1 r =>
    cases r
    cases r1 with
    | lst e r =>
      rw [r.bools] at e
      exact ⟨_, ns, rfl, SqL.of (s _ _ e), k _ _ _ _ (Grow.refl s) (.bl _) qd⟩
def rTuple : RLd := fun ds Q => match ds with
  | [.lst l] => Q (.tup l)
  | [.tup l] => Q (.tup l)
  | _ => False
theorem c_tuple (hK : K = X.K := by rfl) : CallRd X K (.type "tuple") rTuple := by
  subst hK
  refine ⟨_, call_tuple_of, fun F H xs ds Q Qd s r z k => ?_⟩
  unfold rTuple at z
  split at z
  · cases r with
    | cons r1 r =>
      cases r
      cases r1 with
      | lst e r => exact ⟨_, _, rfl, .inl ⟨SqL.of (s _ _ e), fun l hl => k _ _ _ _ (Grow.new s hl) (.tup (SqT.of upd_same) (r.mono (same_new (s.free hl)))) z⟩⟩
  · cases r with
    | cons r1 r =>
      cases r
      cases r1 with
      | tup e r => exact ⟨_, _, rfl, .inr ⟨sqt_same s e, k _ _ _ _ (Grow.refl s) (.tup e r) z⟩⟩
  · exact z.elim
def rList : RLd := fun ds Q => match ds with
  | [.lst l] => Q (.lst l)
  | [.tup l] => Q (.lst l)
  | [.scr ns] => Q (.lst (ns.map .int))
  | _ => False
theorem c_list (hK : K = X.K := by rfl) : CallRd X K (.type "list") rList := by
  subst hK
  refine ⟨_, call_list_of, fun F H xs ds Q Qd s r z k => ?_⟩
  unfold rList at z
  split at z
  · cases r with
    | cons r1 r =>
      cases r
      cases r1 with
      | lst e r => exact ⟨_, _, rfl, .inl (SqL.of (s _ _ e)), fun l hl => k _ _ _ _ (Grow.new s hl) (.lst upd_same (r.mono (same_new (s.free hl)))) z⟩
  · cases r with
    | cons r1 r =>
      cases r
      cases r1 with
      | tup e r => exact ⟨_, _, rfl, .inr (sqt_same s e), fun l hl => k _ _ _ _ (Grow.new s hl) (.lst upd_same (r.mono (same_new (s.free hl)))) z⟩
  · cases r with
    | cons r1 r =>
      cases r
      cases r1 with
      | scr e => exact ⟨_, _, rfl, .inl (sql_same s e), fun l hl => k _ _ _ _ (Grow.new s hl) (.lst upd_same (AtL.of_ints _)) z⟩
  · exact z.elim
def rStr : RLd := fun ds Q => match ds with
  | [.int i] => i.natAbs.log2 < 1920 ∧ Q (.str (toString i))
  | _ => False
theorem c_str : CallRd X K (.type "str") rStr := by
  refine ⟨_, call_str_int, fun F H xs ds Q Qd s r z k => ?_⟩
  unfold rStr at z
  split at z
  · cases r with
    | cons r1 r =>
      cases r
      cases r1
      exact ⟨_, rfl, z.1, k _ _ _ _ (Grow.refl s) (.str _) z.2⟩
  · exact z.elim
end

/-! ### items, attributes -/
section
variable {X : Cx} {G : Gx} {pos : Pos} {a b e : Expr} {ta tb te : TEd}
def atD (xs : List D) (i : Int) : Option D := atI xs i
def oIx : R2d := fun x y Q => match x, y with
  | .lst l, .int i => ∃ v, atD l i = some v ∧ Q v
  | .tup l, .int i => ∃ v, atD l i = some v ∧ Q v
  | _, _ => False
theorem at_len {α β : Type} {xs : List α} {ys : List β} (h : xs.length = ys.length) {i : Int} {v : β} (e : atI ys i = some v) : ∃ j, ixN xs.length i = some j ∧ ys[j]? = some v := by
  unfold atI at e
  rw [← h] at e
  cases q : ixN xs.length i with
  | none => rw [q] at e; cases e
  | some j => rw [q] at e; exact ⟨j, rfl, e⟩
theorem d_ix (ha : PEd X G a ta) (hb : PEd X G b tb) (hs : PlainIx b := by exact fun _ _ => rfl) (hK : G.K = X.K := by rfl) : PEd X G (.Subscript a b pos) (dOp oIx ta tb) := by
  obtain ⟨te, a1, a2⟩ := ha
  obtain ⟨tf, b1, b2⟩ := hb
  refine ⟨_, pe_ix (ix_list.or ix_tup) a1 b1 hs, snd_op (fun F H x y dx dy Q Qd s r q z k => ?_) a2 b2⟩
  unfold oIx at z
  rw [← hK]
  split at z
  · obtain ⟨v, hv, qd⟩ := z
    cases q
    cases r with
    | lst e r =>
      obtain ⟨j, h1, h2⟩ := at_len r.length hv
      obtain ⟨w, hw, rw_⟩ := r.get h2
      exact .inl ⟨_, _, _, w, rfl, rfl, SqL.of (s _ _ e), by unfold atI; rw [h1]; exact hw, k _ _ _ _ (Grow.refl s) rw_ qd⟩
  · obtain ⟨v, hv, qd⟩ := z
    cases q
    cases r with
    | tup e r =>
      obtain ⟨j, h1, h2⟩ := at_len r.length hv
      obtain ⟨w, hw, rw_⟩ := r.get h2
      exact .inr ⟨_, _, _, w, rfl, rfl, sqt_same s e, by unfold atI; rw [h1]; exact hw, k _ _ _ _ (Grow.refl s) rw_ qd⟩
  · exact z.elim
theorem Sr.ownAt {B F H : Hp} {σ : St} {ρ : En} {ex : List Addr} (S : Sr G B ex F H σ ρ) {i : Nat} {o : OD} (h : ρ.sl[i]? = some (.own o)) : ∃ a fp, σ[i]? = some (some (.ref a)) ∧ OwnAt G.K F H fp a o ∧ ∀ x ∈ fp, F x = none ∧ G.H0 x = none ∧ B x = none := by
  obtain ⟨ad, h1, _⟩ := S.sl
  obtain ⟨a, e, r, z⟩ := h1 i _ h
  exact ⟨a, ad i, e, r, z⟩
/-- an item of a list of the def's own -/
def dIxO (i : Nat) (tb : TEd) : TEd := fun ρ Q => match ρ.sl[i]? with
  | some (.own (.lst _)) => tb ρ fun y ρ1 => match ρ1.sl[i]?, y with
    | some (.own (.lst l)), .int j => ∃ v, atD l j = some v ∧ Q v ρ1
    | _, _ => False
  | _ => False
theorem d_ixO (i : Nat) {x : Str} {p : Pos} (hb : PEd X G b tb) (hN : X.N[i]? = some x := by rfl) (hv : Vis X.env.scope x := by first | exact Or.inl rfl | exact Or.inr (Or.inl rfl) | exact Or.inr (Or.inr rfl)) (hs : PlainIx b := by exact fun _ _ => rfl)
    (hd : (x == ("__debug__" : Str)) = false := by decide) (hcd : (x == ("__classdict__" : Str)) = false := by decide) (hK : G.K = X.K := by rfl) : PEd X G (.Subscript (.Name x p) b pos) (dIxO i tb) := by
  obtain ⟨tf, b1, b2⟩ := hb
  refine ⟨_, pe_ix ix_list (pe_var (i := i) hN hv hd hcd) b1 hs, fun B ex F H σ ρ Q Qh S q k => ?_⟩
  unfold dIxO at q
  rw [← hK]
  split at q
  · rename_i l0 e0
    obtain ⟨a, fp, e, r, z⟩ := S.ownAt e0
    refine ⟨_, e, b2 B ex F H σ ρ _ _ S q ?_⟩
    rintro v H1 ⟨F1, d, ρ1, s1, S1, r1, q1⟩
    split at q1
    · rename_i l j e1
      obtain ⟨w, hw, qd⟩ := q1
      obtain ⟨a', fp', e', r', z'⟩ := S1.ownAt e1
      rw [e] at e'
      cases e'
      cases r1
      obtain ⟨_, vs, hv, rv⟩ := r'
      obtain ⟨j', h1, h2⟩ := at_len rv.length hw
      obtain ⟨u, hu, ru⟩ := rv.get h2
      exact ⟨_, _, _, u, rfl, rfl, SqL.of hv, by unfold atI; rw [h1]; exact hu, k _ _ ⟨F1, w, ρ1, s1, S1, ru, qd⟩⟩
    · exact q1.elim
  · exact q.elim
/-- an attribute of an instance that stands still -/
def dFld (K : PySem.W.Frag) (f : Str) (te : TEd) : TEd := fun ρ Q => te ρ fun x ρ1 => match x with
  | .ins C fs => Cls K C ∧ NoAttr K C f ∧ ∃ v, fs.lookup f = some v ∧ Q v ρ1
  | _ => False
theorem lookup_at {K : PySem.W.Frag} {F : Hp} {f : Str} {v : D} : ∀ {fs : List (Str × V)} {gs : List (Str × D)}, fs.map (·.1) = gs.map (·.1) → AtL K F (fs.map (·.2)) (gs.map (·.2)) → gs.lookup f = some v → ∃ w, fs.lookup f = some w ∧ At K F w v
  | [], [], _, _, h => by simp [List.lookup] at h
  | [], _ :: _, h, _, _ => by simp at h
  | _ :: _, [], h, _, _ => by simp at h
  | (n, w) :: fs, (m, d) :: gs, hn, hr, h => by
    simp only [List.map_cons, List.cons.injEq] at hn
    obtain ⟨rfl, hn⟩ := hn
    cases hr with
    | cons r hr =>
      unfold List.lookup at h ⊢
      cases e : f == n with
      | true => rw [e] at h; cases h; exact ⟨w, rfl, r⟩
      | false => rw [e] at h; exact lookup_at hn hr h
theorem d_fld {f : Str} (he : PEd X G e te) (hb : attributeBase e f X.env (eval e X.env) = eval e X.env := by rfl) (hK : G.K = X.K := by rfl) : PEd X G (.Attribute e f pos) (dFld G.K f te) := by
  obtain ⟨w, a1, a2⟩ := he
  refine ⟨_, pe_fld a1 hb, fun B ex F H σ ρ Q Qh S q k => a2 B ex F H σ ρ _ _ S q ?_⟩
  rintro v H1 ⟨F1, d, ρ1, s1, S1, r1, q1⟩
  cases r1 with
  | ins e e2 n r =>
    obtain ⟨c, na, u, hu, qd⟩ := q1
    obtain ⟨w, hw, rw_⟩ := lookup_at n r hu
    rw [← hK]
    exact ⟨_, _, _, _, w, rfl, S1.fh _ _ e, c, na, hw, k _ _ ⟨F1, u, ρ1, s1, S1, rw_, qd⟩⟩
  | _ => exact q1.elim
end
end DL

/-! text DLi -/
set_option Elab.async false
set_option linter.all false
set_option maxRecDepth 100000
set_option maxHeartbeats 4000000
namespace DL
open PySem PySem.Spec PyProof.Rows L2 RZ
section
variable {X : Cx} {G : Gx} {pos : Pos} {a b c e : Expr} {ta tb tc te : TEd}
theorem d_tchain {op op' : CmpOp} {rd rd' : R2d} (ho : OpRd X G.K (compareOp op) rd) (ho' : OpRd X G.K (compareOp op') rd') (ha : PEd X G a ta) (hb : PEd X G b tb) (hc : PEd X G c tc)
    (hm : lastMarks [op, op'] [b, c] = false := by with_unfolding_all rfl) : PTd X G (.Compare a [op, op'] [b, c] pos) (dT (dChain rd rd' ta tb tc)) := by
  obtain ⟨r, h1, h2⟩ := ho
  obtain ⟨r', h1', h2'⟩ := ho'
  obtain ⟨te, a1, a2⟩ := ha
  obtain ⟨tf, b1, b2⟩ := hb
  obtain ⟨tg, c1, c2⟩ := hc
  refine ⟨_, pt_chain h1 h1' a1 b1 c1 hm, ?_⟩
  exact snd_test (snd_chain h2 h2' a2 b2 c2)
/-- a module's constant -/
theorem d_glS {x z : Str} (h : ∃ u, X.mg x = some u ∧ RelV (.str z) u) (hg : Gl X x := by rfl) (hd : (x == ("__debug__" : Str)) = false := by decide) : PEd X G (.Name x pos) (dC (.str z)) := by
  obtain ⟨u, h1, h2⟩ := h
  exact d_glob hg h1 h2 (fun _ => .str z) hd
theorem d_glI {x : Str} {i : Int} (h : ∃ u, X.mg x = some u ∧ RelV (.int i) u) (hg : Gl X x := by rfl) (hd : (x == ("__debug__" : Str)) = false := by decide) : PEd X G (.Name x pos) (dC (.int i)) := by
  obtain ⟨u, h1, h2⟩ := h
  exact d_glob hg h1 h2 (fun _ => .int i) hd
/-- a module's tuple -/
def KTup (K : PySem.W.Frag) (mg : Str → Option Value) (x : Str) (d : D) : Prop := ∃ a, mg x = some (.ref a) ∧ ∀ F, At K F (.ref a) d
theorem d_glT {x : Str} {d : D} (h : KTup X.K X.mg x d) (hK : G.K = X.K := by rfl) (hg : Gl X x := by rfl) (hd : (x == ("__debug__" : Str)) = false := by decide) : PEd X G (.Name x pos) (dC d) := by
  obtain ⟨u, h1, h2⟩ := h
  rw [← hK] at h2
  exact d_glob (v := .ref u) hg h1 rfl h2 hd
theorem d_glC {x : Str} {C : Addr} (h : X.mg x = some (.ref C)) (hg : Gl X x := by rfl) (hd : (x == ("__debug__" : Str)) = false := by decide) : PEd X G (.Name x pos) (dC (.cls C)) :=
  d_glob (v := .ref C) hg h rfl (fun _ => .cls C) hd
/-- a built-in class as a value -/
theorem d_ty {x : Str} {T : String} (hm : X.mg x = none) (hv : bootBuiltins x = some (.type T)) (hg : Gl X x := by rfl) (hn : x ≠ "__name__" := by decide) (hd : (x == ("__debug__" : Str)) = false := by decide) : PEd X G (.Name x pos) (dC (.ty T)) :=
  d_bltn (v := .ty T) hg hm hv rfl (fun _ => .ty T) hn hd
end
/-! ### a def of the text, what callers need -/
def Def (K : PySem.W.Frag) (mg : Str → Option Value) (x : Str) (st : Stmt) (ps : List Str) : Prop := ∃ f fd, Fun K x x st f fd ∧ mg x = some (.ref f) ∧ PySem.W.keepIn K (.ref f) = true ∧ L2.Binds K fd ps []
structure Cal (P : Program) (w : World) (K : PySem.W.Frag) (mg : Str → Option Value) (base : Heap) (x : Str) (ps : List Str) (k : Nat) (g : Gd) : Prop where
  ex : ∃ f fd, FnD P w K mg base k f fd ps g ∧ mg x = some (.ref f) ∧ PySem.W.keepIn K (.ref f) = true ∧ L2.Binds K fd ps []
theorem Def.ok {P : Program} {w : World} {K : PySem.W.Frag} {mg : Str → Option Value} {base : Heap} {x : Str} {st : Stmt} {N ps : List Str} {k n : Nat} {g : Gd} (d : Def K mg x st ps) (S : FnScope N ps (defScope st))
    (hl : ∀ qs π R RX, g qs π R RX → qs.length = ps.length) (hn : N.length - ps.length = n)
    (hb : ∀ (f : Addr) (cdv : Value) (A : Around) (outer : List Env) (s : Shared) (H : Hp) (E : XK) (F B : Hp) (pa : List (Addr × List Addr)) (RX : Exn → List OD → Prop), Room k (A.deeper (envOfC x (defScope st) s.heap.objs.size f cdv)) →
      Takes (cxOf (L2.CX P w) P w K mg base N x (defScope st) f cdv A outer s H E) (wish ⟨K, F, H, B, pa⟩ (fun x ρ => RX x ρ.pa)) →
      ∃ t, PSsd (cxOf (L2.CX P w) P w K mg base N x (defScope st) f cdv A outer s H E) ⟨K, F, H, B, pa⟩ (defBody st) t ∧
        ∀ qs π R, g qs π R RX → t { nx := fun ρ => R (.d .non) ρ.pa, rt := fun r ρ => R r ρ.pa } ⟨qs ++ List.replicate n .no, π⟩) : Cal P w K mg base x ps (k + 1) g := by
  obtain ⟨f, fd, h1, h2, h3, h4⟩ := d
  exact ⟨f, fd, fn_d h1 S hl hn (hb f), h2, h3, h4⟩
section
variable {X : Cx} {G : Gx} {RX : RXd} {k : Nat} {ps : List Str} {g : Gd} {x : Str} {p pos : Pos} {e : Expr} {es : List Expr} {t : TAd}
theorem d_cal (c : Cal X.prog X.w X.K X.mg X.base x ps k g) (hr : Room k X.A) (tk : Takes X (wish G RX)) (ha : PAd X G (e :: es) t) (hK : G.K = X.K := by rfl) (hg : Gl X x := by rfl) (hdb : (x == ("__debug__" : Str)) = false := by decide)
    (he : starEach (e :: es) X.env = (false, eval e X.env) :: starEach es X.env := by rfl) (hpl : (backTo pos (starEach es X.env)).any (·.1) = false := by rfl) : PEd X G (.Call (.Name x p) (e :: es) [] pos) (dCall g RX t) := by
  obtain ⟨f, fd, h1, h2, h3, h4⟩ := c.ex
  exact d_call h1 hr hg h2 h3 h4 tk ha hK hdb he hpl
theorem d_calO (c : Cal X.prog X.w X.K X.mg X.base x ps k g) (hr : Room k X.A) (tk : Takes X (wish G RX)) (ha : PAd X G (e :: es) t) (hK : G.K = X.K := by rfl) (hg : Gl X x := by rfl) (hdb : (x == ("__debug__" : Str)) = false := by decide)
    (he : starEach (e :: es) X.env = (false, eval e X.env) :: starEach es X.env := by rfl) (hpl : (backTo pos (starEach es X.env)).any (·.1) = false := by rfl) : POd X G (.Call (.Name x p) (e :: es) [] pos) (dCallO g RX t) := by
  obtain ⟨f, fd, h1, h2, h3, h4⟩ := c.ex
  exact d_callO h1 hr hg h2 h3 h4 tk ha hK hdb he hpl
end
theorem u65 {k : Nat} {A : Around} (hr : Room k A) : A.units + 65 < cLine := by have := hr.un; omega
/-- data in, data out -/
def pureG (f : List D → (D → Prop) → (Exn → Prop) → Prop) : Gd := fun ps π R RX => ∃ ds, ps = ds.map .d ∧ π = [] ∧ f ds (fun x => R (.d x) []) (fun x => RX x [])
end DL

/-! text DLj -/
set_option Elab.async false
set_option linter.all false
set_option maxRecDepth 100000
set_option maxHeartbeats 4000000
namespace DL
open PySem PySem.Spec PyProof.Rows L2 RZ
section
variable {G : Gx} {B F H : Hp} {σ : St} {ρ : En} {ex : List Addr}
/-- a thing of a slot's own has changed -/
theorem Sr.ownSet (S : Sr G B ex F H σ ρ) {i : Nat} {o on : OD} {a : Addr} {u : HO} (hi : ρ.sl[i]? = some (.own o)) (ha : σ[i]? = some (some (.ref a))) (hs : o.one = true) (r' : OwnAt G.K F (upd H a u) [a] a on) :
    Sr G B ex F (upd H a u) σ ⟨ρ.sl.set i (.own on), ρ.pa⟩ := by
  obtain ⟨ad, h1, h2, h3⟩ := S.sl
  obtain ⟨a', e, r, z⟩ := h1 i _ hi
  rw [ha] at e
  cases e
  have one : ad i = [a] := r.only hs
  have za := z a r.self
  have lt : i < ρ.sl.length := (List.getElem?_eq_some_iff.mp hi).1
  have hH : H a ≠ none := r.there a r.self
  refine ⟨S.f0, S.gb, S.fn, fun b w e => ?_, fun b w e => ?_, fun b hb => ?_, by simp [S.len], fun x hx => ⟨(S.xf x hx).1, ?_⟩, S.pl, fun k ap ob q1 q2 => (S.par k ap ob q1 q2).stay (Same.refl F) fun x hx => ?_, S.pf, S.pd, ad, fun j s hs => ?_, fun j o' hs x hx => ?_, fun j k o' u' hj hk ne => ?_⟩
  · rw [upd_ne (ne_of_none e za.1)]; exact S.fh _ _ e
  · rw [upd_ne (ne_of_none e za.2.2)]; exact S.bh _ _ e
  · by_cases q : b = a
    · subst q; exact za.2.1
    · rw [upd_ne q] at hb; exact S.dom b hb
  · by_cases q : x = a
    · subst q; rw [upd_same]; simp
    · rw [upd_ne q]; exact (S.xf x hx).2
  · have q := (S.pf ap (List.mem_of_getElem? q1) x hx).2.2
    rw [upd_ne (fun w => q (by rw [w]; exact za.2.1))]
  · have hs' : (ρ.sl.set i (.own on))[j]? = some s := hs
    by_cases q : j = i
    · subst q
      rw [List.getElem?_set_self lt] at hs'
      cases hs'
      rw [one] at z ⊢
      exact ⟨a, ha, r', z⟩
    · rw [List.getElem?_set_ne (Ne.symm q)] at hs'
      have w := h1 j s hs'
      cases s with
      | no => trivial
      | d x => exact w
      | own ob =>
        obtain ⟨a2, e2, r2, z2⟩ := w
        exact ⟨a2, e2, r2.stay (Same.refl F) fun x hx => by rw [upd_ne (fun w => h3 i j o ob hi hs' (Ne.symm q) a (by rw [one]; simp) (by rw [← w]; exact hx))], z2⟩
      | par k => exact w
      | pin a => exact w
      | xn a dd y => exact w
  · have hs' : (ρ.sl.set i (.own on))[j]? = some (.own o') := hs
    by_cases q : j = i
    · subst q
      exact h2 j o hi x hx
    · rw [List.getElem?_set_ne (Ne.symm q)] at hs'
      exact h2 j o' hs' x hx
  · have go : ∀ {l : Nat} {w : OD}, (ρ.sl.set i (Sl.own on))[l]? = some (.own w) → ∃ w', ρ.sl[l]? = some (.own w') := fun {l w} hs' => by
      by_cases q : l = i
      · exact ⟨o, by rw [q]; exact hi⟩
      · rw [List.getElem?_set_ne (Ne.symm q)] at hs'
        exact ⟨w, hs'⟩
    obtain ⟨_, gj⟩ := go hj
    obtain ⟨_, gk⟩ := go hk
    exact h3 j k _ _ gj gk ne
end
/-! ### tables of data -/
def valD : List (Key × D) → Key → Option D
  | [], _ => none
  | p :: r, k => if p.1 = k then some p.2 else valD r k
def putD (kvs : List (Key × D)) (k : Key) (v : D) : List (Key × D) :=
  if (kvs.any fun kv => decide (kv.1 = k)) = true then kvs.map (fun kv => if kv.1 = k then (kv.1, v) else kv) else kvs ++ [(k, v)]
def mergeD (kvs more : List (Key × D)) : List (Key × D) := more.foldl (fun acc kv => putD acc kv.1 kv.2) kvs
structure AtK (K : PySem.W.Frag) (F : Hp) (kvs : List (Key × V)) (ds : List (Key × D)) : Prop where
  k : kvs.map (·.1) = ds.map (·.1)
  v : AtL K F (kvs.map (·.2)) (ds.map (·.2))
theorem AtK.nil {K : PySem.W.Frag} {F : Hp} : AtK K F [] [] := ⟨rfl, .nil⟩
theorem AtK.mono {K : PySem.W.Frag} {F F' : Hp} {kvs : List (Key × V)} {ds : List (Key × D)} (h : AtK K F kvs ds) (s : Same F F') : AtK K F' kvs ds := ⟨h.k, h.v.mono s⟩
theorem AtK.cons_inv {K : PySem.W.Frag} {F : Hp} {p : Key × V} {kvs : List (Key × V)} {q : Key × D} {ds : List (Key × D)} (h : AtK K F (p :: kvs) (q :: ds)) : p.1 = q.1 ∧ At K F p.2 q.2 ∧ AtK K F kvs ds := by
  obtain ⟨k, v⟩ := h
  simp only [List.map_cons, List.cons.injEq] at k
  cases v with
  | cons a b => exact ⟨k.1, a, k.2, b⟩
theorem AtK.cons {K : PySem.W.Frag} {F : Hp} {p : Key × V} {kvs : List (Key × V)} {q : Key × D} {ds : List (Key × D)} (h1 : p.1 = q.1) (h2 : At K F p.2 q.2) (h : AtK K F kvs ds) : AtK K F (p :: kvs) (q :: ds) :=
  ⟨by simp [h1, h.k], .cons h2 h.v⟩
theorem AtK.val {K : PySem.W.Frag} {F : Hp} {k : Key} : ∀ {kvs : List (Key × V)} {ds : List (Key × D)}, AtK K F kvs ds → (∀ d, valD ds k = some d → ∃ v, valV kvs k = some v ∧ At K F v d) ∧ (valD ds k = none → valV kvs k = none)
  | [], [], _ => ⟨fun d h => by simp [valD] at h, fun _ => rfl⟩
  | [], _ :: _, h => by have := h.k; simp at this
  | _ :: _, [], h => by have := h.k; simp at this
  | p :: kvs, q :: ds, h => by
    obtain ⟨h1, h2, h3⟩ := h.cons_inv
    obtain ⟨i1, i2⟩ := AtK.val (k := k) h3
    unfold valD
    by_cases e : q.1 = k
    · rw [if_pos e]
      rw [valV_pos (h1.trans e)]
      exact ⟨fun d hd => by cases hd; exact ⟨_, rfl, h2⟩, fun hd => by cases hd⟩
    · rw [if_neg e]
      rw [valV_neg (fun z => e (h1.symm.trans z))]
      exact ⟨i1, i2⟩
theorem AtK.append {K : PySem.W.Frag} {F : Hp} : ∀ {kvs kws : List (Key × V)} {ds es : List (Key × D)}, AtK K F kvs ds → AtK K F kws es → AtK K F (kvs ++ kws) (ds ++ es)
  | [], _, [], _, _, h => h
  | [], _, _ :: _, _, h, _ => by have := h.k; simp at this
  | _ :: _, _, [], _, h, _ => by have := h.k; simp at this
  | p :: kvs, kws, q :: ds, es, h, h' => by
    obtain ⟨h1, h2, h3⟩ := h.cons_inv
    exact .cons h1 h2 (AtK.append h3 h')
theorem AtK.any {K : PySem.W.Frag} {F : Hp} {k : Key} : ∀ {kvs : List (Key × V)} {ds : List (Key × D)}, AtK K F kvs ds → (kvs.any fun kv => decide (kv.1 = k)) = (ds.any fun kv => decide (kv.1 = k))
  | [], [], _ => rfl
  | [], _ :: _, h => by have := h.k; simp at this
  | _ :: _, [], h => by have := h.k; simp at this
  | p :: kvs, q :: ds, h => by
    obtain ⟨h1, h2, h3⟩ := h.cons_inv
    rw [List.any_cons, List.any_cons, AtK.any h3, h1]
theorem AtK.put {K : PySem.W.Frag} {F : Hp} {k : Key} {v : V} {d : D} {kvs : List (Key × V)} {ds : List (Key × D)} (h : AtK K F kvs ds) (r : At K F v d) : AtK K F (putK kvs k v) (putD ds k d) := by
  unfold putK putD
  rw [h.any (k := k)]
  split
  · have go : ∀ {kvs : List (Key × V)} {ds : List (Key × D)}, AtK K F kvs ds → AtK K F (kvs.map fun kv => if kv.1 = k then (kv.1, v) else kv) (ds.map fun kv => if kv.1 = k then (kv.1, d) else kv) := by
      intro kvs
      induction kvs with
      | nil =>
        intro ds h
        cases ds with
        | nil => exact .nil
        | cons _ _ => have := h.k; simp at this
      | cons p kvs ih =>
        intro ds h
        cases ds with
        | nil => have := h.k; simp at this
        | cons q ds =>
          obtain ⟨h1, h2, h3⟩ := h.cons_inv
          rw [List.map_cons, List.map_cons]
          by_cases e : q.1 = k
          · rw [if_pos e, if_pos (h1.trans e)]
            exact .cons h1 r (ih h3)
          · rw [if_neg e, if_neg (fun z => e (h1.symm.trans z))]
            exact .cons h1 h2 (ih h3)
    exact go h
  · exact h.append (.cons rfl r .nil)
theorem AtK.merge {K : PySem.W.Frag} {F : Hp} : ∀ {more : List (Key × V)} {ms : List (Key × D)} {kvs : List (Key × V)} {ds : List (Key × D)}, AtK K F more ms → AtK K F kvs ds → AtK K F (mergeK kvs more) (mergeD ds ms)
  | [], [], _, _, _, h => h
  | [], _ :: _, _, _, h, _ => by have := h.k; simp at this
  | _ :: _, [], _, _, h, _ => by have := h.k; simp at this
  | p :: kvs, q :: ds, _, _, h, h' => by
    obtain ⟨h1, h2, h3⟩ := h.cons_inv
    show AtK K F (mergeK (putK _ p.1 p.2) kvs) (mergeD (putD _ q.1 q.2) ds)
    rw [h1]
    exact AtK.merge h3 (h'.put h2)
def keyOf : D → Option Key
  | .int i => some (.inl i)
  | .str s => some (.inr s)
  | _ => none
theorem key_at {K : PySem.W.Frag} {F : Hp} {v : V} {d : D} {k : Key} (r : At K F v d) (h : keyOf d = some k) : v = kV k := by
  cases r <;> simp [keyOf] at h <;> subst h <;> rfl

section
variable {X : Cx} {G : Gx} {pos pos' : Pos} {a b e o i : Expr} {ta tb te ti : TEd} {x : Str} {p : Pos}
/-! ### dicts: d[k] of a still one, of the def's own; k in d -/
def dGet (to ti : TEd) : TEd := fun ρ Q => to ρ fun x ρ1 => ti ρ1 fun y ρ2 => match x with
  | .dic kvs => ∃ k v, keyOf y = some k ∧ valD kvs k = some v ∧ Q v ρ2
  | _ => False
theorem d_get (hu : X.A.units + 1 < cLine) (ho : PEd X G o ta) (hi : PEd X G i ti) (hs : NoSl i := by exact fun _ _ => rfl) : PEd X G (.Subscript o i pos) (dGet ta ti) := by
  obtain ⟨w, a1, a2⟩ := ho
  obtain ⟨u, b1, b2⟩ := hi
  refine ⟨_, pe_dget hu a1 b1 hs, fun B ex F H σ ρ Q Qh S q k => a2 B ex F H σ ρ _ _ S q ?_⟩
  rintro v H1 ⟨F1, d, ρ1, s1, S1, r1, q1⟩
  refine b2 B ex F1 H1 σ ρ1 _ _ S1 q1 ?_
  rintro y H2 ⟨F2, d2, ρ2, s2, S2, r2, q2⟩
  cases r1 with
  | dic e n r =>
    obtain ⟨kk, v, hk, hv, qd⟩ := q2
    obtain ⟨w, hw, rw_⟩ := (AtK.val (k := kk) ⟨n, r⟩).1 v hv
    have ek := key_at r2 hk
    subst ek
    refine ⟨_, w, rfl, ?_, k _ _ ⟨F2, v, ρ2, s1.trans s2, S2, rw_.mono s2, qd⟩⟩
    rw [← hw]
    exact DGet.k (S2.fh _ _ (s2 _ _ e))
  | _ => exact q2.elim
def dGetO (j : Nat) (ti : TEd) : TEd := fun ρ Q => match ρ.sl[j]? with
  | some (.own (.dic _)) => ti ρ fun y ρ1 => match ρ1.sl[j]? with
    | some (.own (.dic kvs)) => ∃ k v, keyOf y = some k ∧ valD kvs k = some v ∧ Q v ρ1
    | _ => False
  | _ => False
theorem d_getO (j : Nat) (hu : X.A.units + 1 < cLine) (hi : PEd X G i ti) (hN : X.N[j]? = some x := by rfl) (hv : Vis X.env.scope x := by first | exact Or.inl rfl | exact Or.inr (Or.inl rfl) | exact Or.inr (Or.inr rfl)) (hs : NoSl i := by exact fun _ _ => rfl)
    (hd : (x == ("__debug__" : Str)) = false := by decide) (hcd : (x == ("__classdict__" : Str)) = false := by decide) : PEd X G (.Subscript (.Name x p) i pos) (dGetO j ti) := by
  obtain ⟨u, b1, b2⟩ := hi
  refine ⟨_, pe_dget hu (pe_var (i := j) hN hv hd hcd) b1 hs, fun B ex F H σ ρ Q Qh S q k => ?_⟩
  unfold dGetO at q
  split at q
  · rename_i l0 e0
    obtain ⟨a, fp, e, r, z⟩ := S.ownAt e0
    refine ⟨_, e, b2 B ex F H σ ρ _ _ S q ?_⟩
    rintro y H1 ⟨F1, d, ρ1, s1, S1, r1, q1⟩
    split at q1
    · rename_i kvs e1
      obtain ⟨kk, v, hk, hv, qd⟩ := q1
      obtain ⟨a', fp', e', r', z'⟩ := S1.ownAt e1
      rw [e] at e'
      cases e'
      obtain ⟨_, ws, hw, n, rv⟩ := r'
      obtain ⟨w, hw2, rw_⟩ := (AtK.val (k := kk) ⟨n, rv⟩).1 v hv
      have ek := key_at r1 hk
      subst ek
      refine ⟨_, w, rfl, ?_, k _ _ ⟨F1, v, ρ1, s1, S1, rw_, qd⟩⟩
      rw [← hw2]
      exact DGet.k hw
    · exact q1.elim
  · exact q.elim
/-- k in d, d still -/
def dInD (neg : Bool) (ti to : TEd) : TEd := fun ρ Q => ti ρ fun y ρ1 => to ρ1 fun x ρ2 => match x with
  | .dic kvs => ∃ k, keyOf y = some k ∧ Q (.bl (if neg then !(valD kvs k).isSome else (valD kvs k).isSome)) ρ2
  | _ => False
theorem snd_inD (neg : Bool) {ty tx : TE} (h1 : SndE G ty ti) (h2 : SndE G tx ta) : SndE G (if neg then tDNotIn ty tx else tDIn ty tx) (dInD neg ti ta) := by
  intro B ex F H σ ρ Q Qh S q k
  have main : ty σ H fun y H1 => tx σ H1 fun x H2 => ∃ a o, x = .ref a ∧ DGet H2 a y o ∧ Qh (.bl (if neg then !o.isSome else o.isSome)) H2 := by
    refine h1 B ex F H σ ρ _ _ S q ?_
    rintro y H1 ⟨F1, d, ρ1, s1, S1, r1, q1⟩
    refine h2 B ex F1 H1 σ ρ1 _ _ S1 q1 ?_
    rintro x H2 ⟨F2, d2, ρ2, s2, S2, r2, q2⟩
    cases r2 with
    | @dic _ kws ds e n r =>
      obtain ⟨kk, hk, qd⟩ := q2
      have ek := key_at r1 hk
      subst ek
      refine ⟨_, _, rfl, DGet.k (S2.fh _ _ e), ?_⟩
      obtain ⟨i1, i2⟩ := AtK.val (k := kk) ⟨n, r⟩
      have e3 : (valV kws kk).isSome = (valD ds kk).isSome := by
        cases c : valD ds kk with
        | none => rw [i2 c]; rfl
        | some v => obtain ⟨w, hw, _⟩ := i1 v c; rw [hw]; rfl
      rw [e3]
      exact k _ _ ⟨F2, _, ρ2, s1.trans s2, S2, .bl _, qd⟩
    | _ => exact q2.elim
  cases neg with
  | true => exact main
  | false => exact main
theorem d_inD (hu : X.A.units + 1 < cLine) (hi : PEd X G i ti) (ho : PEd X G o ta) (h1 : behindInMarks .In o = false := by rfl) : PEd X G (.Compare i [.In] [o] pos) (dInD false ti ta) := by
  obtain ⟨w, a1, a2⟩ := hi
  obtain ⟨u, b1, b2⟩ := ho
  exact ⟨_, pe_cmp (pc_din hu a1 b1) h1, snd_inD false a2 b2⟩
theorem d_notinD (hu : X.A.units + 1 < cLine) (hi : PEd X G i ti) (ho : PEd X G o ta) (h1 : behindInMarks .NotIn o = false := by rfl) : PEd X G (.Compare i [.NotIn] [o] pos) (dInD true ti ta) := by
  obtain ⟨w, a1, a2⟩ := hi
  obtain ⟨u, b1, b2⟩ := ho
  exact ⟨_, pe_cmp (pc_dnotin hu a1 b1) h1, snd_inD true a2 b2⟩
theorem snd_tB {t : TE} {td : TEd} (h : SndE G t td) : SndT G (tB t) (dT td) := by
  intro B ex F H σ ρ Q Qh S q k
  refine h B ex F H σ ρ _ _ S q ?_
  rintro x H1 ⟨F1, dx, ρ1, s1, S1, r1, q1⟩
  cases r1 with
  | bl b => exact ⟨b, rfl, k _ _ ⟨F1, ρ1, s1, S1, q1⟩⟩
  | _ => exact q1.elim
theorem d_tinD (hu : X.A.units + 1 < cLine) (hi : PEd X G i ti) (ho : PEd X G o ta) (h1 : behindInMarks .In o = false := by rfl) : PTd X G (.Compare i [.In] [o] pos) (dT (dInD false ti ta)) := by
  obtain ⟨w, a1, a2⟩ := hi
  obtain ⟨u, b1, b2⟩ := ho
  exact ⟨_, pt_cmp (pc_din hu a1 b1) h1, snd_tB (snd_inD false a2 b2)⟩
theorem d_tnotinD (hu : X.A.units + 1 < cLine) (hi : PEd X G i ti) (ho : PEd X G o ta) (h1 : behindInMarks .NotIn o = false := by rfl) : PTd X G (.Compare i [.NotIn] [o] pos) (dT (dInD true ti ta)) := by
  obtain ⟨w, a1, a2⟩ := hi
  obtain ⟨u, b1, b2⟩ := ho
  exact ⟨_, pt_cmp (pc_dnotin hu a1 b1) h1, snd_tB (snd_inD true a2 b2)⟩
/-! ### stores -/
/-- xs.append(e) -/
def dApp (j : Nat) (te : TEd) : TSd := fun D ρ => match ρ.sl[j]? with
  | some (.own (.lst _)) => te ρ fun x ρ1 => match ρ1.sl[j]? with
    | some (.own (.lst l)) => l.length < sizeLine ∧ D.nx ⟨ρ1.sl.set j (.own (.lst (l ++ [x]))), ρ1.pa⟩
    | _ => False
  | _ => False
theorem ds_app (j : Nat) {apos cpos : Pos} (he : PEd X G e te) (hK : G.K = X.K := by rfl) (hN : X.N[j]? = some x := by rfl) (hv : Vis X.env.scope x := by first | exact Or.inl rfl | exact Or.inr (Or.inl rfl) | exact Or.inr (Or.inr rfl))
    (hd : (x == ("__debug__" : Str)) = false := by decide) (hcd : (x == ("__classdict__" : Str)) = false := by decide)
    (hbase : attributeBase (.Name x p) "append" X.env (eval (.Name x p) X.env) = eval (.Name x p) X.env := by rfl)
    (hfew : ((backTo cpos (starEach [e] X.env)).all (fun x => !x.1) && (backToKw cpos (keywordEach [] X.env)).all (fun x => x.1.isSome) && decide (([e] : List Expr).length + ([] : List Keyword).length + (if ([] : List Keyword).isEmpty then 0 else 1) < 30)) = true := by rfl)
    (hline : (apos.endLine == cpos.line) = true := by rfl) (hs : starEach [e] X.env = (false, eval e X.env) :: starEach [] X.env := by rfl) (hplain : (backTo cpos (starEach [] X.env)).any (·.1) = false := by rfl)
    (hsw : swapsWith (.Call (.Attribute (.Name x p) "append" apos) [e] [] cpos) none pos.line X.env = pure false := by rfl) : PSd X G (.Expr (.Call (.Attribute (.Name x p) "append" apos) [e] [] cpos) pos) (dApp j te) := by
  obtain ⟨w, a1, a2⟩ := he
  refine ⟨_, ps_expr (pe_bm PySem.F.plainAttrs_list PySem.F.slot_list_append PySem.F.type_list_append mt_append (pe_var (i := j) hN hv hd hcd) (pa_cons a1 pa_nil hs) hbase hfew hline hs hplain) hsw, fun B F H σ ρ Dd D' S q k => ?_⟩
  unfold dApp at q
  split at q
  · rename_i l0 e0
    obtain ⟨a, fp, e, r, z⟩ := S.ownAt e0
    obtain ⟨_, vs0, hv0, _⟩ := r
    refine ⟨_, e, .inl ⟨rfl, _, SqL.of hv0⟩, a2 B [] F H σ ρ _ _ S q ?_⟩
    rintro v H1 ⟨F1, d, ρ1, s1, S1, r1, q1⟩
    split at q1
    · rename_i l e1
      obtain ⟨a', fp', e', r', z'⟩ := S1.ownAt e1
      rw [e] at e'
      cases e'
      obtain ⟨_, vs, hv, rv⟩ := r'
      refine ⟨a, vs, v, rfl, rfl, hv, by rw [rv.length]; exact q1.1, k.nx _ _ ⟨F1, _, s1, S1.ownSet (on := .lst (l ++ [d])) e1 e rfl ⟨rfl, _, upd_same, rv.append (.cons r1 .nil)⟩, q1.2⟩⟩
    · exact q1.elim
  · exact q.elim
/-- a target xs[i], d[k] of the def's own -/
def gPut (j : Nat) (ti : TEd) : TGd := fun d ρ Q => match ρ.sl[j]? with
  | some (.own (.dic _)) => ti ρ fun y ρ1 => match ρ1.sl[j]? with
    | some (.own (.dic kvs)) => ∃ k, keyOf y = some k ∧ kvs.length < sizeLine ∧ Q ⟨ρ1.sl.set j (.own (.dic (putD kvs k d))), ρ1.pa⟩
    | _ => False
  | _ => False
def gSetL (j : Nat) (ti : TEd) : TGd := fun d ρ Q => match ρ.sl[j]? with
  | some (.own (.lst _)) => ti ρ fun y ρ1 => match ρ1.sl[j]?, y with
    | some (.own (.lst l)), .int n => ∃ m, ixN l.length n = some m ∧ Q ⟨ρ1.sl.set j (.own (.lst (l.set m d))), ρ1.pa⟩
    | _, _ => False
  | _ => False
theorem dg_put (j : Nat) (hu : X.A.units + 1 < cLine) (hi : PEd X G i ti) (hN : X.N[j]? = some x := by rfl) (hv : Vis X.env.scope x := by first | exact Or.inl rfl | exact Or.inr (Or.inl rfl) | exact Or.inr (Or.inr rfl))
    (hd : (x == ("__debug__" : Str)) = false := by decide) (hcd : (x == ("__classdict__" : Str)) = false := by decide)
    (ha : ∀ v : Value, assign (.Subscript (.Name x p) i pos) X.env v = (do
      let ov ← holding [v] (eval (.Name x p) X.env)
      let iv ← holding [v, ov] (eval i X.env)
      standAt pos
      holding [v, ov, iv] (setItem ov iv v)
      release [v, ov, iv] []) := by intro _; rfl) : PGd X G (.Subscript (.Name x p) i pos) (gPut j ti) [] := by
  obtain ⟨w, a1, a2⟩ := hi
  refine ⟨_, pg_sub (pe_var (i := j) hN hv hd hcd) a1 (set_dict hu) ha, fun B ex F H σ ρ v d Q Qh S r q k => ?_⟩
  unfold gPut at q
  split at q
  · rename_i l0 e0
    obtain ⟨a, fp, e, r0, z⟩ := S.ownAt e0
    refine ⟨_, e, a2 B ex F H σ ρ _ _ S q ?_⟩
    rintro y H1 ⟨F1, d1, ρ1, s1, S1, r1, q1⟩
    split at q1
    · rename_i kvs e1
      obtain ⟨kk, hk, hl, qd⟩ := q1
      obtain ⟨a', fp', e', r', z'⟩ := S1.ownAt e1
      rw [e] at e'
      cases e'
      obtain ⟨_, ws, hw, n, rv⟩ := r'
      have ek := key_at r1 hk
      subst ek
      have hl' : ws.length < sizeLine := by
        have := congrArg List.length n
        rw [List.length_map, List.length_map] at this
        omega
      have at2 : AtK G.K F1 (putK ws kk v) (putD kvs kk d) := AtK.put ⟨n, rv⟩ (r.mono s1)
      exact ⟨a, _, rfl, DPut.k hw hl', k _ _ _ _ s1 (S1.ownSet (on := .dic (putD kvs kk d)) e1 e rfl ⟨rfl, _, upd_same, at2.k, at2.v⟩) (fun _ _ => rfl) qd⟩
    · exact q1.elim
  · exact q.elim
theorem dg_setL (j : Nat) (hi : PEd X G i ti) (hN : X.N[j]? = some x := by rfl) (hv : Vis X.env.scope x := by first | exact Or.inl rfl | exact Or.inr (Or.inl rfl) | exact Or.inr (Or.inr rfl))
    (hd : (x == ("__debug__" : Str)) = false := by decide) (hcd : (x == ("__classdict__" : Str)) = false := by decide)
    (ha : ∀ v : Value, assign (.Subscript (.Name x p) i pos) X.env v = (do
      let ov ← holding [v] (eval (.Name x p) X.env)
      let iv ← holding [v, ov] (eval i X.env)
      standAt pos
      holding [v, ov, iv] (setItem ov iv v)
      release [v, ov, iv] []) := by intro _; rfl) : PGd X G (.Subscript (.Name x p) i pos) (gSetL j ti) [] := by
  obtain ⟨w, a1, a2⟩ := hi
  refine ⟨_, pg_sub (pe_var (i := j) hN hv hd hcd) a1 set_list ha, fun B ex F H σ ρ v d Q Qh S r q k => ?_⟩
  unfold gSetL at q
  split at q
  · rename_i l0 e0
    obtain ⟨a, fp, e, r0, z⟩ := S.ownAt e0
    refine ⟨_, e, a2 B ex F H σ ρ _ _ S q ?_⟩
    rintro y H1 ⟨F1, d1, ρ1, s1, S1, r1, q1⟩
    split at q1
    · rename_i l n e1
      obtain ⟨m, hm, qd⟩ := q1
      obtain ⟨a', fp', e', r', z'⟩ := S1.ownAt e1
      rw [e] at e'
      cases e'
      cases r1
      obtain ⟨_, ws, hw, rv⟩ := r'
      exact ⟨a, ws, n, m, rfl, rfl, hw, by rw [rv.length]; exact hm, k _ _ _ _ s1 (S1.ownSet (on := .lst (l.set m d)) e1 e rfl ⟨rfl, _, upd_same, rv.set (r.mono s1) m⟩) (fun _ _ => rfl) qd⟩
    · exact q1.elim
  · exact q.elim
/-- any target -/
def dAsg (te : TEd) (g : TGd) : TSd := fun D ρ => te ρ fun x ρ1 => g x ρ1 D.nx
theorem ds_asg {tg : Expr} {g : TGd} {js : List Nat} (he : PEd X G e te) (hg : PGd X G tg g js) (hs : swapsWithSole [tg] e pos.line X.env = pure false := by rfl) (hw : swappedStores [tg] e X.env = pure none := by rfl)
    (h1 : (assignEach [tg] X.env).map (·.2) = [assign tg X.env] := by rfl) : PSd X G (.Assign [tg] e pos) (dAsg te g) := by
  obtain ⟨w, a1, a2⟩ := he
  obtain ⟨u, b1, b2⟩ := hg
  refine ⟨_, ps_asg a1 b1 hs hw h1, fun B F H σ ρ Dd D' S q k => a2 B [] F H σ ρ _ _ S q ?_⟩
  rintro v H1 ⟨F1, d, ρ1, s1, S1, r1, q1⟩
  refine b2 B [] F1 H1 σ ρ1 _ _ _ _ S1 r1 q1 ?_
  intro σ2 F2 H2 ρ2 s2 S2 _ q2
  exact k.nx _ _ ⟨F2, ρ2, s1.trans s2, S2, q2⟩
/-- a += e -/
def dAug (j : Nat) (r : R2d) (te : TEd) : TSd := fun D ρ => match ρ.sl[j]? with
  | some (.d x) => te ρ fun y ρ1 => r x y fun z => D.nx ⟨ρ1.sl.set j (.d z), ρ1.pa⟩
  | _ => False
theorem ds_augI (j : Nat) {op : Operator} {f : Int → Int → Int} {r : R2d} (ho : PIp X op (ipI f)) (hr : ∀ x y Q, r x y Q → ∃ i j, x = .int i ∧ y = .int j ∧ Q (.int (f i j))) (he : PEd X G e te) (hN : X.N.Nodup) (hi : X.N[j]? = some x := by rfl) (hx : Loc X.env.scope x := by first | exact Or.inl rfl | exact Or.inr rfl)
    (hf : X.fn x = true ∨ X.env.scope.names.lookup x = some .local := by first | exact .inl rfl | exact .inr rfl | assumption) : PSd X G (.AugAssign (.Name x pos') op e pos) (dAug j r te) := by
  obtain ⟨w, a1, a2⟩ := he
  refine ⟨_, ps_aug hN hi hx a1 ho hf, fun B F H σ ρ Dd D' S q k => ?_⟩
  unfold dAug at q
  split at q
  · rename_i x0 e0
    obtain ⟨ad, h1, _⟩ := S.sl
    obtain ⟨v, e, r0⟩ := h1 j _ e0
    refine ⟨v, e, a2 B [] F H σ ρ _ _ S q ?_⟩
    rintro y H1 ⟨F1, d, ρ1, s1, S1, r1, q1⟩
    obtain ⟨m, n, rfl, rfl, qd⟩ := hr _ _ _ q1
    cases r0
    cases r1
    exact ⟨m, n, rfl, rfl, k.nx _ _ ⟨F1, _, s1, S1.set j (.int _), qd⟩⟩
  · exact q.elim
end
end DL

/-! text DLk -/
set_option Elab.async false
set_option linter.all false
set_option maxRecDepth 100000
set_option maxHeartbeats 4000000
namespace DL
open PySem PySem.Spec PyProof.Rows L2 RZ
section
variable {X : Cx} {G : Gx} {pos : Pos} {a b c e : Expr}
/-! ### values that may be one's own -/
abbrev TRd := En → (Rv → En → Prop) → Prop
def LR (G : Gx) (B : Hp) (ex : List Addr) (F : Hp) (σ : St) (Q : Rv → En → Prop) : VK := fun v H' => (∃ F' x ρ', Same F F' ∧ Sr G B ex F' H' σ ρ' ∧ At G.K F' v x ∧ Q (.d x) ρ') ∨
  (∃ F' p fp o ρ', Same F F' ∧ Sr G B (fp ++ ex) F' H' σ ρ' ∧ v = .ref p ∧ OwnAt G.K F' H' fp p o ∧ (∀ x ∈ fp, F' x = none ∧ G.H0 x = none ∧ B x = none) ∧ (∀ x ∈ ex, x ∉ fp) ∧ Q (.own o) ρ')
def SndR (G : Gx) (te : TE) (t : TRd) : Prop := ∀ (B : Hp) ex F H σ ρ Q (Qh : VK), Sr G B ex F H σ ρ → t ρ Q → (∀ v H', LR G B ex F σ Q v H' → Qh v H') → te σ H Qh
def PRd (X : Cx) (G : Gx) (e : Expr) (t : TRd) : Prop := ∃ te, PE X e te ∧ SndR G te t
def rD (t : TEd) : TRd := fun ρ Q => t ρ fun x ρ1 => Q (.d x) ρ1
def rO (t : TOd) : TRd := fun ρ Q => t ρ fun x ρ1 => Q (.own x) ρ1
theorem dr_d {t : TEd} (h : PEd X G e t) : PRd X G e (rD t) := by
  obtain ⟨w, a1, a2⟩ := h
  exact ⟨w, a1, fun B ex F H σ ρ Q Qh S q k => a2 B ex F H σ ρ _ _ S q fun v H' ⟨F', x, ρ', s, S', r, q'⟩ => k _ _ (.inl ⟨F', x, ρ', s, S', r, q'⟩)⟩
theorem dr_o {t : TOd} (h : POd X G e t) : PRd X G e (rO t) := by
  obtain ⟨w, a1, a2⟩ := h
  exact ⟨w, a1, fun B ex F H σ ρ Q Qh S q k => a2 B ex F H σ ρ _ _ S q fun v H' z => k _ _ (.inr z)⟩
/-- the owned thing's content is held -/
def pinB (B H : Hp) (fp : List Addr) : Hp := fun x => if x ∈ fp then H x else B x
theorem Sr.pinFp {B F H : Hp} {σ : St} {ρ : En} {ex fp : List Addr} (S : Sr G B (fp ++ ex) F H σ ρ) (z : ∀ x ∈ fp, F x = none ∧ G.H0 x = none ∧ B x = none) : Sr G (pinB B H fp) (fp ++ ex) F H σ ρ := by
  obtain ⟨ad, h1, h2, h3⟩ := S.sl
  refine ⟨S.f0, fun x o e => ?_, S.fn, S.fh, fun x o e => ?_, S.dom, S.len, S.xf, S.pl, S.par, fun ap hap x hx => ?_, S.pd, ad, fun i s hs => ?_, h2, h3⟩
  · unfold pinB
    have q := S.gb x o e
    rw [if_neg (fun w => by rw [(z x w).2.2] at q; cases q)]
    exact q
  · unfold pinB at e
    split at e
    · exact e
    · exact S.bh _ _ e
  · obtain ⟨q1, q2, q3⟩ := S.pf ap hap x hx
    refine ⟨q1, ?_, q3⟩
    unfold pinB
    rw [if_neg (fun w => q3 (z x w).2.1)]
    exact q2
  · have q := h1 i s hs
    cases s with
    | no => trivial
    | d x => exact q
    | own u =>
      obtain ⟨a, e, r, z'⟩ := q
      refine ⟨a, e, r, fun x hx => ⟨(z' x hx).1, (z' x hx).2.1, ?_⟩⟩
      unfold pinB
      rw [if_neg (fun w => h2 i u hs x hx (List.mem_append_left _ w))]
      exact (z' x hx).2.2
    | par k => exact q
    | pin a => exact q
    | xn a dd y => exact q
theorem same_pin {B H : Hp} {fp : List Addr} (z : ∀ x ∈ fp, B x = none) : Same B (pinB B H fp) := fun x o e => by
  unfold pinB
  rw [if_neg (fun w => by rw [z x w] at e; cases e)]
  exact e
def Rv.sl : Rv → Sl
  | .d x => .d x
  | .own o => .own o
def En.put (ρ : En) (i : Nat) (r : Rv) : En := ⟨ρ.sl.set i r.sl, ρ.pa⟩
/-- a, b = e1, e2 -/
def dPar (i j : Nat) (ta tb : TRd) : TSd := fun D ρ => ta ρ fun x ρ1 => tb ρ1 fun y ρ2 => D.nx ((ρ2.put i x).put j y)
theorem snd_two {ta tb : TRd} {u w : TE} (a2 : SndR G u ta) (b2 : SndR G w tb) {B F H : Hp} {σ : St} {ρ : En} {Q : Rv → Rv → En → Prop} {Qh : List V → Hp → Prop} {i j : Nat} (S : Sr G B [] F H σ ρ) (q : ta ρ fun x ρ1 => tb ρ1 fun y ρ2 => Q x y ρ2)
    (k : ∀ v w H' F' x y ρ', Same F F' → Sr G B [] F' H' ((σ.set i (some v)).set j (some w)) ((ρ'.put i x).put j y) → Q x y ρ' → Qh [v, w] H') : tCons u (tCons w tNil) σ H Qh := by
  refine a2 B [] F H σ ρ _ _ S q ?_
  rintro v H1 (⟨F1, x, ρ1, s1, S1, r1, q1⟩ | ⟨F1, p, fp, o, ρ1, s1, S1, rfl, r1, z1, dj, q1⟩)
  · refine b2 B [] F1 H1 σ ρ1 _ _ S1 q1 ?_
    rintro w H2 (⟨F2, y, ρ2, s2, S2, r2, q2⟩ | ⟨F2, p, fp, o, ρ2, s2, S2, rfl, r2, z2, dj, q2⟩)
    · exact k v w H2 F2 (.d x) (.d y) ρ2 (s1.trans s2) ((S2.set i (r1.mono s2)).set j r2) q2
    · exact k v _ H2 F2 (.d x) (.own o) ρ2 (s1.trans s2) ((S2.set i (r1.mono s2)).setO j r2 z2 (fun x hx => absurd hx (by simp))) q2
  · have S1' := S1.pinFp z1
    refine b2 _ (fp ++ []) F1 H1 σ ρ1 _ _ S1' q1 ?_
    have keep : ∀ {H2 : Hp}, Same (pinB B H1 fp) H2 → ∀ x ∈ fp, H2 x = H1 x := fun {H2} s x hx => by
      cases e : H1 x with
      | none => exact absurd e (r1.there x hx)
      | some u => exact s x u (by unfold pinB; rw [if_pos hx]; exact e)
    rintro w H2 (⟨F2, y, ρ2, s2, S2, r2, q2⟩ | ⟨F2, p2, fp2, o2, ρ2, s2, S2, rfl, r2, z2, dj2, q2⟩)
    · have S3 : Sr G B (fp ++ []) F2 H2 σ ρ2 := S2.weak (same_pin fun x hx => (z1 x hx).2.2) S1.gb (fun _ h => h)
      have r1' := r1.stay s2 (keep S2.bh)
      have z1' : ∀ x ∈ fp, F2 x = none ∧ G.H0 x = none ∧ B x = none := fun x hx => ⟨(S2.xf x (by simp [hx])).1, (z1 x hx).2⟩
      exact k _ w H2 F2 (.own o) (.d y) ρ2 (s1.trans s2) ((S3.setO i r1' z1' (fun x hx => absurd hx (by simp))).set j r2) q2
    · have S3 : Sr G B (fp2 ++ (fp ++ [])) F2 H2 σ ρ2 := S2.weak (same_pin fun x hx => (z1 x hx).2.2) S1.gb (fun _ h => h)
      have S4 : Sr G B (fp ++ fp2) F2 H2 σ ρ2 := S3.weak (Same.refl B) S1.gb (fun x hx => by
        rcases List.mem_append.mp hx with h | h
        · simp [h]
        · simp [h])
      have r1' := r1.stay s2 (keep S2.bh)
      have z1' : ∀ x ∈ fp, F2 x = none ∧ G.H0 x = none ∧ B x = none := fun x hx => ⟨(S2.xf x (by simp [hx])).1, (z1 x hx).2⟩
      have z2' : ∀ x ∈ fp2, F2 x = none ∧ G.H0 x = none ∧ B x = none := fun x hx => ⟨(z2 x hx).1, (z2 x hx).2.1, (same_pin (H := H1) (fp := fp) (fun x hx => (z1 x hx).2.2)).free (z2 x hx).2.2⟩
      have S5 := S4.setO i r1' z1' (fun x hx hm => dj2 x (by simp [hm]) hx)
      have S6 : Sr G B (fp2 ++ []) F2 H2 (σ.set i (some (.ref p))) ⟨ρ2.sl.set i (.own o), ρ2.pa⟩ := by rw [List.append_nil]; exact S5
      exact k _ _ H2 F2 (.own o) (.own o2) ρ2 (s1.trans s2) (S6.setO j r2 z2' (fun x hx => absurd hx (by simp))) q2
theorem ds_par (i j : Nat) {x y : Str} {ta tb : TRd} {px py pt : Pos} {kt k2 pt2} (ha : PRd X G a ta) (hb : PRd X G b tb) (hc : X.calm = true) (hN : X.N.Nodup) (hij : i ≠ j := by decide) (hi : X.N[i]? = some x := by rfl) (hj : X.N[j]? = some y := by rfl)
    (hx : X.env.scope.names.lookup x = some .local := by rfl) (hy : X.env.scope.names.lookup y = some .local := by rfl)
    (hw : swappedStores [.Tuple [.Name x px, .Name y py] kt pt] (.Tuple [a, b] k2 pt2) X.env = pure (some [x, y]) := by rfl)
    (hs : swapsWithSole [.Tuple [.Name x px, .Name y py] kt pt] (.Tuple [a, b] k2 pt2) pos.line X.env = pure false := by rfl)
    (h1 : starEach (a :: [b]) X.env = (false, eval a X.env) :: starEach [b] X.env := by rfl) (h2 : starEach (b :: []) X.env = (false, eval b X.env) :: starEach [] X.env := by rfl) :
    PSd X G (.Assign [.Tuple [.Name x px, .Name y py] kt pt] (.Tuple [a, b] k2 pt2) pos) (dPar i j ta tb) := by
  obtain ⟨u, a1, a2⟩ := ha
  obtain ⟨w, b1, b2⟩ := hb
  refine ⟨_, ps_par hc hN hi hj hij hx hy (pa_cons a1 (pa_cons b1 pa_nil h2) h1) hw hs, fun B F H σ ρ Dd D' S q k => ?_⟩
  refine snd_two (i := i) (j := j) (Q := fun x y ρ2 => Dd.nx ((ρ2.put i x).put j y)) a2 b2 S q ?_
  intro v w H' F' x y ρ' s S' q'
  exact ⟨v, w, rfl, k.nx _ _ ⟨F', _, s, S', q'⟩⟩

/-! ### dict displays, copies -/
def dPairs : List (TEd × TEd) → En → (List (D × D) → En → Prop) → Prop
  | [], ρ, Q => Q [] ρ
  | (tk, tv) :: r, ρ, Q => tk ρ fun x ρ1 => tv ρ1 fun y ρ2 => dPairs r ρ2 fun ps ρ3 => Q ((x, y) :: ps) ρ3
def PPd (X : Cx) (G : Gx) (pos : Pos) (keys : List (Option Expr)) (values : List Expr) (ts : List (TEd × TEd)) : Prop := ∃ trs, PPs X pos keys values trs ∧ ∀ (B : Hp) ex F H σ ρ Q (Qh : List (V × V) → Hp → Prop), Sr G B ex F H σ ρ → dPairs ts ρ Q →
  (∀ ps H' F' ds ρ', Same F F' → Sr G B ex F' H' σ ρ' → AtL G.K F' (ps.map (·.1)) (ds.map (·.1)) → AtL G.K F' (ps.map (·.2)) (ds.map (·.2)) → Q ds ρ' → Qh ps H') → tPairs trs σ H Qh
theorem dp_nil : PPd X G pos [] [] [] := ⟨[], pps_nil, fun B ex F H σ ρ Q Qh S q k => k [] H F [] ρ (Same.refl F) S .nil .nil q⟩
theorem dp_cons {kx vx : Expr} {ks : List (Option Expr)} {vs : List Expr} {tk tv : TEd} {ts : List (TEd × TEd)} (hk : PEd X G kx tk) (hv : PEd X G vx tv) (hr : PPd X G pos ks vs ts) : PPd X G pos (some kx :: ks) (vx :: vs) ((tk, tv) :: ts) := by
  obtain ⟨u, a1, a2⟩ := hk
  obtain ⟨w, b1, b2⟩ := hv
  obtain ⟨trs, c1, c2⟩ := hr
  refine ⟨_, pps_cons a1 b1 c1, fun B ex F H σ ρ Q Qh S q k => a2 B ex F H σ ρ _ _ S q ?_⟩
  rintro x H1 ⟨F1, d1, ρ1, s1, S1, r1, q1⟩
  refine b2 B ex F1 H1 σ ρ1 _ _ S1 q1 ?_
  rintro y H2 ⟨F2, d2, ρ2, s2, S2, r2, q2⟩
  refine c2 B ex F2 H2 σ ρ2 _ _ S2 q2 ?_
  intro ps H3 F3 ds ρ3 s3 S3 r3 r4 q3
  exact k _ H3 F3 ((d1, d2) :: ds) ρ3 ((s1.trans s2).trans s3) S3 (.cons ((r1.mono s2).mono s3) r3) (.cons (r2.mono s3) r4) q3
/-- the pairs have keys -/
def keysOf : List (D × D) → Option (List (Key × D))
  | [] => some []
  | (k, v) :: r => match keyOf k, keysOf r with
    | some k', some r' => some ((k', v) :: r')
    | _, _ => none
theorem keys_at2 {K : PySem.W.Frag} {F : Hp} : ∀ {ps : List (V × V)} {ds : List (D × D)} {ks : List (Key × D)}, AtL K F (ps.map (·.1)) (ds.map (·.1)) → AtL K F (ps.map (·.2)) (ds.map (·.2)) → keysOf ds = some ks → ∃ kvs : List (Key × V), ps = kvs.map (fun kv => (kV kv.1, kv.2)) ∧ AtK K F kvs ks
  | [], [], _, _, _, h => by simp [keysOf] at h; subst h; exact ⟨[], rfl, .nil⟩
  | [], _ :: _, _, h, _, _ => by cases h
  | _ :: _, [], _, h, _, _ => by cases h
  | (x, y) :: ps, (k, v) :: ds, ks, .cons h1 h2, .cons h3 h4, h => by
    unfold keysOf at h
    cases e1 : keyOf k with
    | none => rw [e1] at h; cases h
    | some k' =>
      cases e2 : keysOf ds with
      | none => rw [e1, e2] at h; cases h
      | some r' =>
        rw [e1, e2] at h
        cases h
        obtain ⟨kvs, hp, q⟩ := keys_at2 h2 h4 e2
        have ex := key_at h1 e1
        dsimp only at ex h3
        subst ex
        exact ⟨(k', y) :: kvs, by rw [List.map_cons, hp], .cons rfl h3 q⟩
def dDispO (ts : List (TEd × TEd)) : TOd := fun ρ Q => dPairs ts ρ fun ds ρ1 => ∃ ks, keysOf ds = some ks ∧ ks.length ≤ 15 ∧ Q (.dic (mergeD [] ks)) ρ1
theorem d_dispO {keys : List (Option Expr)} {values : List Expr} {ts : List (TEd × TEd)} (h : PPd X G pos keys values ts) (hall : keys.all (·.isSome) = true := by rfl) (hl : keys.length = values.length := by rfl) (h0 : keys ≠ [] := by exact fun z => by cases z) (h15 : keys.length ≤ 15 := by decide) :
    POd X G (.Dict keys values pos) (dDispO ts) := by
  obtain ⟨trs, c1, c2⟩ := h
  refine ⟨_, pe_disp c1 hall hl h0 h15, fun B ex F H σ ρ Q Qh S q k => ?_⟩
  intro p hp
  have bp := S.bfree hp
  refine c2 (upd B p (.dK [])) (p :: ex) F _ σ ρ _ _ (S.pin hp) q ?_
  intro ps H1 F1 ds ρ1 s1 S1 r1 r2 ⟨ks, hk, hlen, q1⟩
  obtain ⟨kvs, e, at_⟩ := keys_at2 r1 r2 hk
  have hl2 : kvs.length = ks.length := by
    have := congrArg List.length at_.k
    simpa using this
  refine ⟨S1.bh _ _ upd_same, kvs, e, by omega, ?_⟩
  have S2 := (S1.pinSet (o' := .dK (mergeK [] kvs)) (S.gb.free bp) (fun b u ne e => S1.bh _ _ (by rw [upd_ne ne]; exact e))).weak (same_new bp) S.gb (fun _ h => h)
  have at2 : AtK G.K F1 (mergeK [] kvs) (mergeD [] ks) := AtK.merge at_ .nil
  refine k _ _ ⟨F1, p, [p], .dic (mergeD [] ks), ρ1, s1, S2, rfl, ⟨rfl, _, upd_same, at2.k, at2.v⟩, fun x hx => ?_, fun x hx hm => ?_, q1⟩
  · rw [List.mem_singleton] at hx
    subst hx
    exact ⟨(S1.xf x (by simp)).1, S.dom _ hp, bp⟩
  · rw [List.mem_singleton] at hm
    subst hm
    exact (S.xf _ hx).2 hp
def dNewO : TOd := fun ρ Q => Q (.dic []) ρ
theorem d_newO : POd X G (.Dict [] [] pos) dNewO := by
  refine ⟨_, pe_dnewK, fun B ex F H σ ρ Q Qh S q k p hp => k _ _ ⟨F, p, [p], .dic [], ρ, Same.refl F, S.newX hp, rfl, ⟨rfl, [], upd_same, rfl, .nil⟩, fun x hx => ?_, fun x hx hm => ?_, q⟩⟩
  · rw [List.mem_singleton] at hx
    subst hx
    exact ⟨S.ffree hp, S.dom _ hp, S.bfree hp⟩
  · rw [List.mem_singleton] at hm
    subst hm
    exact (S.xf _ hx).2 hp
/-- dict(d), list(x): a copy of one's own -/
def dCopyD (te : TEd) : TOd := fun ρ Q => te ρ fun x ρ1 => match x with
  | .dic kvs => Q (.dic kvs) ρ1
  | _ => False
def dCopyL (te : TEd) : TOd := fun ρ Q => te ρ fun x ρ1 => match x with
  | .lst l => Q (.lst l) ρ1
  | .tup l => Q (.lst l) ρ1
  | _ => False
theorem LO.mk {B F F1 H1 : Hp} {σ : St} {ρ1 : En} {ex : List Addr} {Q : OD → En → Prop} {p : Addr} {u : HO} {o : OD} (s : Same F F1) (S : Sr G B ex F1 H1 σ ρ1) (hp : H1 p = none) (r : OwnAt G.K F1 (upd H1 p u) [p] p o) (q : Q o ρ1) : LO G B ex F σ Q (.ref p) (upd H1 p u) :=
  ⟨F1, p, [p], o, ρ1, s, S.newX hp, rfl, r, fun x hx => by rw [List.mem_singleton] at hx; subst hx; exact ⟨S.ffree hp, S.dom _ hp, S.bfree hp⟩, fun x hx hm => by rw [List.mem_singleton] at hm; subst hm; exact (S.xf _ hx).2 hp, q⟩
theorem d_copyD {te : TEd} {p : Pos} (he : PEd X G e te) (hm : X.mg "dict" = none) (hg : Gl X "dict" := by rfl) (hs : starEach [e] X.env = (false, eval e X.env) :: starEach [] X.env := by rfl) (hpl : (backTo pos (starEach [] X.env)).any (·.1) = false := by rfl) :
    POd X G (.Call (.Name "dict" p) [e] [] pos) (dCopyD te) := by
  obtain ⟨w, a1, a2⟩ := he
  refine ⟨_, pe_callTy call_dictD hg hm boot_dict (pa_cons a1 pa_nil hs) (by decide) (by decide) hs hpl, fun B ex F H σ ρ Q Qh S q k => a2 B ex F H σ ρ _ _ S q ?_⟩
  rintro v H1 ⟨F1, d, ρ1, s1, S1, r1, q1⟩
  cases r1 with
  | dic e n r => exact ⟨_, _, rfl, .inl (S1.fh _ _ e), fun p hp => k _ _ (LO.mk s1 S1 hp (o := .dic _) ⟨rfl, _, upd_same, n, r⟩ q1)⟩
  | _ => exact q1.elim
theorem d_copyL {te : TEd} {p : Pos} (he : PEd X G e te) (hm : X.mg "list" = none) (hK : G.K = X.K := by rfl) (hg : Gl X "list" := by rfl) (hs : starEach [e] X.env = (false, eval e X.env) :: starEach [] X.env := by rfl) (hpl : (backTo pos (starEach [] X.env)).any (·.1) = false := by rfl) :
    POd X G (.Call (.Name "list" p) [e] [] pos) (dCopyL te) := by
  obtain ⟨w, a1, a2⟩ := he
  refine ⟨_, pe_callTy call_list_of hg hm boot_list (pa_cons a1 pa_nil hs) (by decide) (by decide) hs hpl, fun B ex F H σ ρ Q Qh S q k => a2 B ex F H σ ρ _ _ S q ?_⟩
  rintro v H1 ⟨F1, d, ρ1, s1, S1, r1, q1⟩
  cases r1 with
  | lst e r => exact ⟨_, _, rfl, .inl (SqL.of (S1.fh _ _ e)), fun p hp => k _ _ (LO.mk s1 S1 hp (o := .lst _) ⟨rfl, _, upd_same, r⟩ q1)⟩
  | tup e r => exact ⟨_, _, rfl, .inr (by rw [← hK]; exact sqt_same S1.fh e), fun p hp => k _ _ (LO.mk s1 S1 hp (o := .lst _) ⟨rfl, _, upd_same, r⟩ q1)⟩
  | _ => exact q1.elim
/-- a name that holds a thing of one's own, handed on: return found -/
def dVarO (i : Nat) : TOd := fun ρ Q => match ρ.sl[i]? with
  | some (.own o) => o.still = true ∧ Q o ⟨ρ.sl.set i .no, ρ.pa⟩
  | _ => False
theorem d_varO (i : Nat) {x : Str} (hN : X.N[i]? = some x := by rfl) (hv : Vis X.env.scope x := by first | exact Or.inl rfl | exact Or.inr (Or.inl rfl) | exact Or.inr (Or.inr rfl)) (hd : (x == ("__debug__" : Str)) = false := by decide)
    (hcd : (x == ("__classdict__" : Str)) = false := by decide) : POd X G (.Name x pos) (dVarO i) := by
  refine ⟨_, pe_var hN hv hd hcd, fun B ex F H σ ρ Q Qh S q k => ?_⟩
  unfold dVarO at q
  split at q
  · rename_i o ho
    obtain ⟨ad, h1, h2, h3⟩ := S.sl
    obtain ⟨a, e, r, z⟩ := h1 i _ ho
    refine ⟨_, e, k _ _ ⟨F, a, ad i, o, ⟨ρ.sl.set i .no, ρ.pa⟩, Same.refl F, ?_, rfl, r, z, fun x hx hm => h2 i o ho x hm hx, q.2⟩⟩
    have go : ∀ {j : Nat} {s : Sl}, (ρ.sl.set i .no)[j]? = some s → s = .no ∨ (j ≠ i ∧ ρ.sl[j]? = some s) := fun {j s} hs => by
      by_cases w : j = i
      · subst w
        have lt : j < (ρ.sl.set j .no).length := (List.getElem?_eq_some_iff.mp hs).1
        rw [List.length_set] at lt
        rw [List.getElem?_set_self lt] at hs
        cases hs
        exact .inl rfl
      · rw [List.getElem?_set_ne (Ne.symm w)] at hs
        exact .inr ⟨w, hs⟩
    refine ⟨S.f0, S.gb, S.fn, S.fh, S.bh, S.dom, by simp [S.len], fun x hx => ?_, S.pl, S.par, S.pf, S.pd, ad, fun j s hs => ?_, fun j o' hs x hx hm => ?_, fun j l o' u' hj hl ne => ?_⟩
    · rcases List.mem_append.mp hx with hx | hx
      · exact ⟨(z x hx).1, r.there x hx⟩
      · exact S.xf x hx
    · rcases go hs with rfl | ⟨_, w⟩
      · trivial
      · exact h1 j s w
    · rcases go hs with w | ⟨ne, w⟩
      · cases w
      · rcases List.mem_append.mp hm with hm | hm
        · exact h3 j i o' o w ho ne x hx hm
        · exact h2 j o' w x hx hm
    · rcases go hj with w | ⟨_, w⟩
      · cases w
      · rcases go hl with w' | ⟨_, w'⟩
        · cases w'
        · exact h3 j l o' u' w w' ne
  · exact q.elim
end
end DL

/-! text DLl -/
set_option Elab.async false
set_option linter.all false
set_option maxRecDepth 100000
set_option maxHeartbeats 4000000
namespace DL
open PySem PySem.Spec PyProof.Rows L2 RZ
/-! ### things that may be changed: a slot's own, or handed in -/
def En.thing (ρ : En) (j : Nat) : Option OD := match ρ.sl[j]? with
  | some (.own o) => some o
  | some (.par k) => ρ.pa[k]?
  | _ => none
def En.chg (ρ : En) (j : Nat) (o : OD) : En := match ρ.sl[j]? with
  | some (.own _) => ⟨ρ.sl.set j (.own o), ρ.pa⟩
  | some (.par k) => ⟨ρ.sl, ρ.pa.set k o⟩
  | _ => ρ
/-- all but the addresses in fp -/
def offB (H : Hp) (fp : List Addr) : Hp := fun x => if x ∈ fp then none else H x
/-- the heap has changed at fp alone, and grown -/
structure Chg (F H F' H' : Hp) (fp fpn : List Addr) : Prop where
  f : Same F F'
  n : ∀ x, F' x ≠ none → F x ≠ none ∨ H x = none
  fh : Same F' H'
  k : ∀ x, x ∉ fp → H x ≠ none → H' x = H x
  d : ∀ x, H' x = none → H x = none
  x : ∀ x ∈ fpn, F' x = none ∧ H' x ≠ none ∧ H x = none
section
variable {G : Gx} {B F H F' H' : Hp} {σ : St} {ρ : En} {ex fp fpn : List Addr} {j : Nat} {o : OD}
theorem Sr.thing (S : Sr G B ex F H σ ρ) (h : ρ.thing j = some o) : ∃ a fp, σ[j]? = some (some (.ref a)) ∧ OwnAt G.K F H fp a o ∧ (∀ x ∈ fp, F x = none ∧ B x = none) ∧
    ∀ F' H' o2 fpn, Chg F H F' H' fp fpn → OwnAt G.K F' H' fp a o2 → Sr G B (fpn ++ ex) F' H' σ (ρ.chg j o2) := by
  obtain ⟨ad, h1, h2, h3⟩ := S.sl
  unfold En.thing at h
  split at h
  · rename_i o' hj
    cases h
    obtain ⟨a, e, r, z⟩ := h1 j _ hj
    refine ⟨a, ad j, e, r, fun x hx => ⟨(z x hx).1, (z x hx).2.2⟩, fun F' H' o2 fpn C r2 => ?_⟩
    unfold En.chg
    rw [hj]
    dsimp only
    have lt : j < ρ.sl.length := (List.getElem?_eq_some_iff.mp hj).1
    have stayF : ∀ x, H x ≠ none → F x = none → F' x = none := fun x a1 a2 => by
      cases q : F' x with
      | none => rfl
      | some u => rcases C.n x (by rw [q]; simp) with w | w; exact absurd a2 w; exact absurd w a1
    refine ⟨S.f0.trans C.f, S.gb, fun b hb => ?_, C.fh, fun b u hb => ?_, fun b hb => S.dom b (C.d b hb), by simp [S.len], fun x hx => ?_, S.pl, fun k ap ob q1 q2 => ?_, fun ap hap x hx => ?_, S.pd, ad, fun i s hs => ?_, fun i ob hs x hx hm => ?_, fun i k ob u hi hk ne => ?_⟩
    · rcases C.n b hb with w | w
      · exact S.fn b w
      · exact .inr (S.dom b w)
    · have w := S.bh b u hb
      rw [C.k b (fun hx => by rw [(z b hx).2.2] at hb; cases hb) (by rw [w]; simp)]
      exact w
    · rcases List.mem_append.mp hx with hx | hx
      · exact ⟨(C.x x hx).1, (C.x x hx).2.1⟩
      · obtain ⟨w1, w2⟩ := S.xf x hx
        exact ⟨stayF x w2 w1, fun w => w2 (C.d x w)⟩
    · have w := S.par k ap ob q1 q2
      refine w.stay C.f fun x hx => C.k x (fun hm => (S.pf ap (List.mem_of_getElem? q1) x hx).2.2 (z x hm).2.1) (w.there x hx)
    · obtain ⟨q1, q2, q3⟩ := S.pf ap hap x hx
      exact ⟨stayF x (fun w => q3 (S.dom x w)) q1, q2, q3⟩
    · have hs' : (ρ.sl.set j (.own o2))[i]? = some s := hs
      by_cases q : i = j
      · subst q
        rw [List.getElem?_set_self lt] at hs'
        cases hs'
        exact ⟨a, e, r2, fun x hx => ⟨stayF x (r.there x hx) (z x hx).1, (z x hx).2⟩⟩
      · rw [List.getElem?_set_ne (Ne.symm q)] at hs'
        have w := h1 i s hs'
        cases s with
        | no => trivial
        | d x => obtain ⟨v, e', r'⟩ := w; exact ⟨v, e', r'.mono C.f⟩
        | own ob =>
          obtain ⟨a', e', r', z'⟩ := w
          exact ⟨a', e', r'.stay C.f fun x hx => C.k x (fun hm => h3 i j ob o hs' hj q x hx hm) (r'.there x hx), fun x hx => ⟨stayF x (r'.there x hx) (z' x hx).1, (z' x hx).2⟩⟩
        | par k => exact w
        | pin a => exact w
        | xn a dd y => obtain ⟨e1, v1, e2, e3⟩ := w; exact ⟨e1, v1, C.f _ _ e2, e3.mono C.f⟩
    · have old : ∃ u, ρ.sl[i]? = some (.own u) := by
        have hs' : (ρ.sl.set j (.own o2))[i]? = some (.own ob) := hs
        by_cases q : i = j
        · exact ⟨o, by rw [q]; exact hj⟩
        · rw [List.getElem?_set_ne (Ne.symm q)] at hs'; exact ⟨_, hs'⟩
      obtain ⟨u, hu⟩ := old
      rcases List.mem_append.mp hm with hm | hm
      · obtain ⟨a', e', r', z'⟩ := h1 i _ hu
        exact r'.there x hx (C.x x hm).2.2
      · exact h2 i u hu x hx hm
    · have go : ∀ {l : Nat} {w : OD}, (ρ.sl.set j (Sl.own o2))[l]? = some (.own w) → ∃ w', ρ.sl[l]? = some (.own w') := fun {l w} hs' => by
        by_cases q : l = j
        · exact ⟨o, by rw [q]; exact hj⟩
        · rw [List.getElem?_set_ne (Ne.symm q)] at hs'
          exact ⟨w, hs'⟩
      obtain ⟨_, gj⟩ := go hi
      obtain ⟨_, gk⟩ := go hk
      exact h3 i k _ _ gj gk ne
  · rename_i k hj
    obtain ⟨ap, hap, e⟩ := h1 j _ hj
    have r := S.par k ap o hap h
    have z := S.pf ap (List.mem_of_getElem? hap)
    refine ⟨ap.1, ap.2, e, r, fun x hx => ⟨(z x hx).1, (z x hx).2.1⟩, fun F' H' o2 fpn C r2 => ?_⟩
    unfold En.chg
    rw [hj]
    dsimp only
    have ltk : k < ρ.pa.length := (List.getElem?_eq_some_iff.mp h).1
    have stayF : ∀ x, H x ≠ none → F x = none → F' x = none := fun x a1 a2 => by
      cases q : F' x with
      | none => rfl
      | some u => rcases C.n x (by rw [q]; simp) with w | w; exact absurd a2 w; exact absurd w a1
    refine ⟨S.f0.trans C.f, S.gb, fun b hb => ?_, C.fh, fun b u hb => ?_, fun b hb => S.dom b (C.d b hb), S.len, fun x hx => ?_, by simp [S.pl], fun l bp ob q1 q2 => ?_, fun bp hbp x hx => ?_, S.pd, ad, fun i s hs => ?_, fun i ob hs x hx hm => ?_, h3⟩
    · rcases C.n b hb with w | w
      · exact S.fn b w
      · exact .inr (S.dom b w)
    · have w := S.bh b u hb
      rw [C.k b (fun hx => by rw [(z b hx).2.1] at hb; cases hb) (by rw [w]; simp)]
      exact w
    · rcases List.mem_append.mp hx with hx | hx
      · exact ⟨(C.x x hx).1, (C.x x hx).2.1⟩
      · obtain ⟨w1, w2⟩ := S.xf x hx
        exact ⟨stayF x w2 w1, fun w => w2 (C.d x w)⟩
    · have q2' : (ρ.pa.set k o2)[l]? = some ob := q2
      by_cases q : l = k
      · subst q
        rw [List.getElem?_set_self ltk] at q2'
        cases q2'
        rw [hap] at q1
        cases q1
        exact r2
      · rw [List.getElem?_set_ne (Ne.symm q)] at q2'
        have w := S.par l bp ob q1 q2'
        exact w.stay C.f fun x hx => C.k x (fun hm => S.pd l k bp ap q1 hap q x hx hm) (w.there x hx)
    · obtain ⟨q1, q2, q3⟩ := S.pf bp hbp x hx
      exact ⟨stayF x (fun w => q3 (S.dom x w)) q1, q2, q3⟩
    · have w := h1 i s hs
      cases s with
      | no => trivial
      | d x => obtain ⟨v, e', r'⟩ := w; exact ⟨v, e', r'.mono C.f⟩
      | own ob =>
        obtain ⟨a', e', r', z'⟩ := w
        exact ⟨a', e', r'.stay C.f fun x hx => C.k x (fun hm => (z x hm).2.2 (z' x hx).2.1) (r'.there x hx), fun x hx => ⟨stayF x (r'.there x hx) (z' x hx).1, (z' x hx).2⟩⟩
      | par k => exact w
      | pin a => exact w
      | xn a dd y => obtain ⟨e1, v1, e2, e3⟩ := w; exact ⟨e1, v1, C.f _ _ e2, e3.mono C.f⟩
    · rcases List.mem_append.mp hm with hm | hm
      · obtain ⟨a', e', r', z'⟩ := h1 i _ hs
        exact r'.there x hx (C.x x hm).2.2
      · exact h2 i ob hs x hx hm
  · cases h
/-- one place of the heap is written -/
theorem Chg.put (S : Sr G B ex F H σ ρ) {a : Addr} {u : HO} {fp : List Addr} (fa : F a = none) (ha : H a ≠ none) (hm : a ∈ fp) : Chg F H F (upd H a u) fp [] :=
  ⟨Same.refl F, fun x h => .inl h, fun b w e => by rw [upd_ne (ne_of_none e fa)]; exact S.fh _ _ e, fun x hx _ => upd_ne (fun w => hx (by rw [w]; exact hm)),
    fun x hx => by
      by_cases q : x = a
      · subst q; rw [upd_same] at hx; cases hx
      · rw [upd_ne q] at hx; exact hx, fun x hx => absurd hx (by simp)⟩
end
section
variable {X : Cx} {G : Gx} {pos pos' : Pos} {a b e i : Expr} {ta tb te ti : TEd} {x : Str} {p : Pos}
def dIxT (j : Nat) (tb : TEd) : TEd := fun ρ Q => match ρ.thing j with
  | some (.lst _) => tb ρ fun y ρ1 => match ρ1.thing j, y with
    | some (.lst l), .int m => ∃ v, atD l m = some v ∧ Q v ρ1
    | _, _ => False
  | _ => False
theorem d_ixT (j : Nat) (hb : PEd X G b tb) (hN : X.N[j]? = some x := by rfl) (hv : Vis X.env.scope x := by first | exact Or.inl rfl | exact Or.inr (Or.inl rfl) | exact Or.inr (Or.inr rfl)) (hs : PlainIx b := by exact fun _ _ => rfl)
    (hd : (x == ("__debug__" : Str)) = false := by decide) (hcd : (x == ("__classdict__" : Str)) = false := by decide) (hK : G.K = X.K := by rfl) : PEd X G (.Subscript (.Name x p) b pos) (dIxT j tb) := by
  obtain ⟨tf, b1, b2⟩ := hb
  refine ⟨_, pe_ix ix_list (pe_var (i := j) hN hv hd hcd) b1 hs, fun B ex F H σ ρ Q Qh S q k => ?_⟩
  unfold dIxT at q
  rw [← hK]
  split at q
  · rename_i l0 e0
    obtain ⟨a, fp, e, r, z⟩ := S.thing e0
    refine ⟨_, e, b2 B ex F H σ ρ _ _ S q ?_⟩
    rintro v H1 ⟨F1, d, ρ1, s1, S1, r1, q1⟩
    split at q1
    · rename_i l m e1
      obtain ⟨w, hw, qd⟩ := q1
      obtain ⟨a', fp', e', r', z'⟩ := S1.thing e1
      rw [e] at e'
      cases e'
      cases r1
      obtain ⟨_, vs, hv, rv⟩ := r'
      obtain ⟨j', h1, h2⟩ := at_len rv.length hw
      obtain ⟨u, hu, ru⟩ := rv.get h2
      exact ⟨_, _, _, u, rfl, rfl, SqL.of hv, by unfold atI; rw [h1]; exact hu, k _ _ ⟨F1, w, ρ1, s1, S1, ru, qd⟩⟩
    · exact q1.elim
  · exact q.elim
def dStT (j : Nat) (te ti : TEd) : TSd := fun D ρ => te ρ fun d ρ1 => match ρ1.thing j with
  | some (.lst _) => ti ρ1 fun y ρ2 => match ρ2.thing j, y with
    | some (.lst l), .int n => ∃ m, ixN l.length n = some m ∧ D.nx (ρ2.chg j (.lst (l.set m d)))
    | _, _ => False
  | _ => False
theorem ds_stT (j : Nat) (he : PEd X G e te) (hi : PEd X G i ti) (hN : X.N[j]? = some x := by rfl) (hv : Vis X.env.scope x := by first | exact Or.inl rfl | exact Or.inr (Or.inl rfl) | exact Or.inr (Or.inr rfl))
    (hd : (x == ("__debug__" : Str)) = false := by decide) (hcd : (x == ("__classdict__" : Str)) = false := by decide)
    (ha : ∀ v : Value, assign (.Subscript (.Name x p) i pos') X.env v = (do
      let ov ← holding [v] (eval (.Name x p) X.env)
      let iv ← holding [v, ov] (eval i X.env)
      standAt pos'
      holding [v, ov, iv] (setItem ov iv v)
      release [v, ov, iv] []) := by intro _; rfl) (hs : swapsWithSole [.Subscript (.Name x p) i pos'] e pos.line X.env = pure false := by rfl) (hw : swappedStores [.Subscript (.Name x p) i pos'] e X.env = pure none := by rfl)
    (h1 : (assignEach [.Subscript (.Name x p) i pos'] X.env).map (·.2) = [assign (.Subscript (.Name x p) i pos') X.env] := by rfl) : PSd X G (.Assign [.Subscript (.Name x p) i pos'] e pos) (dStT j te ti) := by
  obtain ⟨u, b1, b2⟩ := he
  obtain ⟨w, a1, a2⟩ := hi
  refine ⟨_, ps_asg b1 (pg_sub (pe_var (i := j) hN hv hd hcd) a1 set_list ha) hs hw h1, fun B F H σ ρ Dd D' S q k => b2 B [] F H σ ρ _ _ S q ?_⟩
  rintro v H0 ⟨F0, d, ρ0, s0, S0, r0, q0⟩
  split at q0
  · rename_i l0 e0
    obtain ⟨a, fp, e, r, z⟩ := S0.thing e0
    refine ⟨_, e, a2 B [] F0 H0 σ ρ0 _ _ S0 q0 ?_⟩
    rintro y H1 ⟨F1, d1, ρ1, s1, S1, r1, q1⟩
    split at q1
    · rename_i l n e1
      obtain ⟨m, hm, qd⟩ := q1
      obtain ⟨a', fp', e', r', z', bk⟩ := S1.thing e1
      rw [e] at e'
      cases e'
      cases r1
      obtain ⟨hfp, ws, hw, rv⟩ := r'
      subst hfp
      refine ⟨a, ws, n, m, rfl, rfl, hw, by rw [rv.length]; exact hm, k.nx _ _ ⟨F1, _, s0.trans s1, ?_, qd⟩⟩
      have w := bk F1 (upd H1 a (.lst (ws.set m v))) (.lst (l.set m d)) [] (.put S1 (z' a (by simp)).1 (by rw [hw]; simp) (by simp)) ⟨rfl, _, upd_same, rv.set (r0.mono s1) m⟩
      simpa using w
    · exact q1.elim
  · exact q0.elim
end
end DL

/-! text DLm -/
set_option Elab.async false
set_option linter.all false
set_option maxRecDepth 100000
set_option maxHeartbeats 4000000
namespace DL
open PySem PySem.Spec PyProof.Rows L2 RZ
section
variable {G : Gx} {B F H : Hp} {σ : St} {ρ : En} {ex fp : List Addr} {o : OD}
/-- what a callee asks, where the first argument may be changed -/
theorem Sr.callee1 (S : Sr G B ex F H σ ρ) {a : Addr} (r1 : OwnAt G.K F H fp a o) (z : ∀ x ∈ fp, F x = none) {vs : List V} {ds : List D} (r : AtL G.K F vs ds) :
    Sr ⟨G.K, F, H, offB H fp, [(a, fp)]⟩ (offB H fp) [] F H ((V.ref a :: vs).map some) ⟨.par 0 :: ds.map .d, [o]⟩ := by
  have zero : ∀ {k : Nat} {ap : Addr × List Addr}, ([(a, fp)] : List (Addr × List Addr))[k]? = some ap → k = 0 ∧ ap = (a, fp) := fun {k ap} h => by
    cases k with
    | zero => simp at h; exact ⟨rfl, h.symm⟩
    | succ k => simp at h
  refine ⟨Same.refl F, Same.refl _, fun a h => .inl h, S.fh, fun b u hb => ?_, fun a h => h, by simp [r.length], fun x hx => absurd hx (by simp), rfl, fun k ap ob h1 h2 => ?_, fun ap hap x hx => ?_, fun j k ap bp h1 h2 ne => ?_, fun _ => [], fun i s hs => ?_, fun i ob hs => ?_, fun i j ob u hi => ?_⟩
  · unfold offB at hb
    split at hb
    · cases hb
    · exact hb
  · obtain ⟨rfl, rfl⟩ := zero h1
    have h2' : ([o] : List OD)[0]? = some ob := h2
    simp at h2'
    subst h2'
    exact r1
  · have hap' : ap ∈ [(a, fp)] := hap
    rw [List.mem_singleton] at hap'
    subst hap'
    exact ⟨z x hx, by unfold offB; rw [if_pos hx], r1.there x hx⟩
  · obtain ⟨rfl, _⟩ := zero h1
    obtain ⟨rfl, _⟩ := zero h2
    exact absurd rfl ne
  · cases i with
    | zero =>
      have hs' : (Sl.par 0 :: ds.map Sl.d)[0]? = some s := hs
      simp at hs'
      subst hs'
      exact ⟨(a, fp), rfl, rfl⟩
    | succ i =>
      have hs' : (Sl.par 0 :: ds.map Sl.d)[i + 1]? = some s := hs
      rw [List.getElem?_cons_succ, List.getElem?_map] at hs'
      cases e : ds[i]? with
      | none => rw [e] at hs'; cases hs'
      | some d =>
        rw [e] at hs'
        cases hs'
        obtain ⟨v, hv, q⟩ := r.get e
        exact ⟨v, by rw [List.map_cons, List.getElem?_cons_succ, List.getElem?_map, hv]; rfl, q⟩
  · simp
  · exfalso
    have hs' : (Sl.par 0 :: ds.map Sl.d)[i]? = some (.own ob) := hi
    cases i with
    | zero => simp at hs'
    | succ i =>
      rw [List.getElem?_cons_succ, List.getElem?_map] at hs'
      cases e : ds[i]? with
      | none => rw [e] at hs'; cases hs'
      | some d => rw [e] at hs'; cases hs'
/-- what the callee gives back -/
theorem Chg.of {K : PySem.W.Frag} {a : Addr} {H' F' : Hp} {fpn : List Addr} {σ' : St} {ρ' : En} (S' : Sr ⟨K, F, H, offB H fp, [(a, fp)]⟩ (offB H fp) fpn F' H' σ' ρ') (zz : ∀ x ∈ fpn, H x = none) : Chg F H F' H' fp fpn := by
  refine ⟨S'.f0, S'.fn, S'.fh, fun x hx hH => ?_, S'.dom, fun x hx => ⟨(S'.xf x hx).1, (S'.xf x hx).2, zz x hx⟩⟩
  cases e : H x with
  | none => exact absurd e hH
  | some u => exact S'.bh x u (by unfold offB; rw [if_neg hx]; exact e)
end
/-- what comes back, at the caller's slots -/
def retD1 (Q : D → En → Prop) (ρ : En) (j : Nat) (r : Rv) (π : List OD) : Prop := ∃ o, π[0]? = some o ∧ retD Q (ρ.chg j o) r
def retO1 (Q : OD → En → Prop) (ρ : En) (j : Nat) (r : Rv) (π : List OD) : Prop := ∃ o, π[0]? = some o ∧ retO Q (ρ.chg j o) r
def noX : Exn → List OD → Prop := fun _ _ => False
def dCall1 (j : Nat) (g : Gd) (t : TAd) : TEd := fun ρ Q => (∃ o, ρ.thing j = some o) ∧ t ρ fun ds ρ1 => ∃ o, ρ1.thing j = some o ∧ g (.par 0 :: ds.map .d) [o] (retD1 Q ρ1 j) noX
def dCall1O (j : Nat) (g : Gd) (t : TAd) : TOd := fun ρ Q => (∃ o, ρ.thing j = some o) ∧ t ρ fun ds ρ1 => ∃ o, ρ1.thing j = some o ∧ g (.par 0 :: ds.map .d) [o] (retO1 Q ρ1 j) noX
section
variable {X : Cx} {G : Gx} {k : Nat} {f : Addr} {fd : FuncData} {ps : List Str} {g : Gd} {x y : Str} {p p' pos : Pos} {es : List Expr} {t : TAd}
theorem d_call1E (j : Nat) (F : FnD X.prog X.w X.K X.mg X.base k f fd ps g) (hr : Room k X.A) (hg : Gl X x) (hm : X.mg x = some (.ref f)) (hk : PySem.W.keepIn X.K (.ref f) = true) (hb : Binds X.K fd ps [])
    (tk : Takes X (wish G (fun _ _ => False))) (ha : PAd X G es t) (hK : G.K = X.K) (hN : X.N[j]? = some y) (hv : Vis X.env.scope y) (hd : (y == ("__debug__" : Str)) = false) (hcd : (y == ("__classdict__" : Str)) = false)
    (hdb : (x == ("__debug__" : Str)) = false) (he : starEach (.Name y p' :: es) X.env = (false, eval (.Name y p') X.env) :: starEach es X.env) (hpl : (backTo pos (starEach es X.env)).any (·.1) = false) :
    ∃ te, PE X (.Call (.Name x p) (.Name y p' :: es) [] pos) te ∧ ∀ (B : Hp) ex F H σ ρ (Qh : VK) (R : En → Rv → List OD → Prop), Sr G B ex F H σ ρ → ((∃ o, ρ.thing j = some o) ∧ t ρ fun ds ρ1 => ∃ o, ρ1.thing j = some o ∧ g (.par 0 :: ds.map .d) [o] (R ρ1) noX) →
      (∀ v H' F1 H1 ρ1 a fp o, Same F F1 → Sr G B ex F1 H1 σ ρ1 → ρ1.thing j = some o → OwnAt G.K F1 H1 fp a o → (∀ F' H' o2 fpn, Chg F1 H1 F' H' fp fpn → OwnAt G.K F' H' fp a o2 → Sr G B (fpn ++ ex) F' H' σ (ρ1.chg j o2)) →
        LRv ⟨G.K, F1, H1, offB H1 fp, [(a, fp)]⟩ (offB H1 fp) F1 (fun r ρ' => R ρ1 r ρ'.pa) v H' → Qh v H') → te σ H Qh := by
  obtain ⟨tu, h1, h2⟩ := ha
  refine ⟨_, pe_callS F hr hg hm hk hb (fun σ => passAt tk σ) (pa_cons (pe_var (i := j) hN hv hd hcd) h1 he) hdb he hpl, fun B ex F H σ ρ Qh R S q kk => ?_⟩
  obtain ⟨⟨o0, q0⟩, q⟩ := q
  obtain ⟨a, fp0, e, _⟩ := S.thing q0
  refine ⟨_, e, h2 B ex F H σ ρ _ _ S q ?_⟩
  rintro vs H1 ⟨F1, ds, ρ1, s1, S1, r1, o, q1, q2⟩
  obtain ⟨a', fp, e', r, z, bk⟩ := S1.thing q1
  rw [e] at e'
  cases e'
  refine ⟨F1, offB H1 fp, [(a, fp)], .par 0 :: ds.map .d, [o], R ρ1, noX, ?_, q2, ?_, ?_⟩
  · rw [← hK]
    exact S1.callee1 r (fun x hx => (z x hx).1) r1
  · rw [← hK]
    exact fun v H' w => kk v H' F1 H1 ρ1 a fp o s1 S1 q1 r bk w
  · rintro cls d σ' H' ⟨_, _, _, _, _, _, w⟩
    exact w.elim
theorem pa_one {K : PySem.W.Frag} {F H : Hp} {a : Addr} {fp fpn : List Addr} {B F' H' : Hp} {σ' : St} {ρ' : En} (S' : Sr ⟨K, F, H, B, [(a, fp)]⟩ B fpn F' H' σ' ρ') {o : OD} (h : ρ'.pa[0]? = some o) : OwnAt K F' H' fp a o := S'.par 0 (a, fp) o rfl h
theorem d_call1 (j : Nat) (F : FnD X.prog X.w X.K X.mg X.base k f fd ps g) (hr : Room k X.A) (hg : Gl X x) (hm : X.mg x = some (.ref f)) (hk : PySem.W.keepIn X.K (.ref f) = true) (hb : Binds X.K fd ps [])
    (tk : Takes X (wish G (fun _ _ => False))) (ha : PAd X G es t) (hK : G.K = X.K := by rfl) (hN : X.N[j]? = some y := by rfl) (hv : Vis X.env.scope y := by first | exact Or.inl rfl | exact Or.inr (Or.inl rfl) | exact Or.inr (Or.inr rfl)) (hd : (y == ("__debug__" : Str)) = false := by decide) (hcd : (y == ("__classdict__" : Str)) = false := by decide)
    (hdb : (x == ("__debug__" : Str)) = false := by decide) (he : starEach (.Name y p' :: es) X.env = (false, eval (.Name y p') X.env) :: starEach es X.env := by rfl) (hpl : (backTo pos (starEach es X.env)).any (·.1) = false := by rfl) :
    PEd X G (.Call (.Name x p) (.Name y p' :: es) [] pos) (dCall1 j g t) := by
  obtain ⟨te, h1, h2⟩ := d_call1E j F hr hg hm hk hb tk ha hK hN hv hd hcd hdb he hpl
  refine ⟨te, h1, fun B ex F H σ ρ Q Qh S q kk => h2 B ex F H σ ρ Qh (fun ρ1 => retD1 Q ρ1 j) S q ?_⟩
  rintro v H' F1 H1 ρ1 a fp o s1 S1 q1 r bk ⟨σ', ρ', ⟨F', y, s', S', r', o2, ho2, q2⟩ | ⟨F', pp, fpn, on, s', S', e, r', zz, o2, ho2, q2⟩⟩
  · have w := bk F' H' o2 [] (.of S' (fun x hx => absurd hx (by simp))) (pa_one S' ho2)
    exact kk _ _ ⟨F', y, _, s1.trans s', by simpa using w, r', q2⟩
  · subst e
    have w := bk F' H' o2 fpn (.of S' (fun x hx => (zz x hx).2.1)) (pa_one S' ho2)
    obtain ⟨F2, s2, S2, a2⟩ := w.still (ex := ex) (fp := fpn) r' (fun x hx => ⟨(zz x hx).1, S1.dom x (zz x hx).2.1, S1.bfree (zz x hx).2.1⟩) (fun x hx hm => (S1.xf x hx).2 (zz x hm).2.1) q2.1
    exact kk _ _ ⟨F2, _, _, (s1.trans s').trans s2, S2, a2, q2.2⟩
theorem d_call1O (j : Nat) (F : FnD X.prog X.w X.K X.mg X.base k f fd ps g) (hr : Room k X.A) (hg : Gl X x) (hm : X.mg x = some (.ref f)) (hk : PySem.W.keepIn X.K (.ref f) = true) (hb : Binds X.K fd ps [])
    (tk : Takes X (wish G (fun _ _ => False))) (ha : PAd X G es t) (hK : G.K = X.K := by rfl) (hN : X.N[j]? = some y := by rfl) (hv : Vis X.env.scope y := by first | exact Or.inl rfl | exact Or.inr (Or.inl rfl) | exact Or.inr (Or.inr rfl)) (hd : (y == ("__debug__" : Str)) = false := by decide) (hcd : (y == ("__classdict__" : Str)) = false := by decide)
    (hdb : (x == ("__debug__" : Str)) = false := by decide) (he : starEach (.Name y p' :: es) X.env = (false, eval (.Name y p') X.env) :: starEach es X.env := by rfl) (hpl : (backTo pos (starEach es X.env)).any (·.1) = false := by rfl) :
    POd X G (.Call (.Name x p) (.Name y p' :: es) [] pos) (dCall1O j g t) := by
  obtain ⟨te, h1, h2⟩ := d_call1E j F hr hg hm hk hb tk ha hK hN hv hd hcd hdb he hpl
  refine ⟨te, h1, fun B ex F H σ ρ Q Qh S q kk => h2 B ex F H σ ρ Qh (fun ρ1 => retO1 Q ρ1 j) S q ?_⟩
  rintro v H' F1 H1 ρ1 a fp o s1 S1 q1 r bk ⟨σ', ρ', ⟨F', y, s', S', r', o2, ho2, q2⟩ | ⟨F', pp, fpn, on, s', S', e, r', zz, o2, ho2, q2⟩⟩
  · exact q2.elim
  · subst e
    have w := bk F' H' o2 fpn (.of S' (fun x hx => (zz x hx).2.1)) (pa_one S' ho2)
    exact kk _ _ ⟨F', pp, fpn, on, _, s1.trans s', w, rfl, r', fun x hx => ⟨(zz x hx).1, S1.dom x (zz x hx).2.1, S1.bfree (zz x hx).2.1⟩, fun x hx hm => (S1.xf x hx).2 (zz x hm).2.1, q2⟩
theorem d_cal1 (j : Nat) (c : Cal X.prog X.w X.K X.mg X.base x ps k g) (hr : Room k X.A) (tk : Takes X (wish G (fun _ _ => False))) (ha : PAd X G es t) (hK : G.K = X.K := by rfl) (hg : Gl X x := by rfl) (hN : X.N[j]? = some y := by rfl) (hv : Vis X.env.scope y := by first | exact Or.inl rfl | exact Or.inr (Or.inl rfl) | exact Or.inr (Or.inr rfl)) (hd : (y == ("__debug__" : Str)) = false := by decide) (hcd : (y == ("__classdict__" : Str)) = false := by decide)
    (hdb : (x == ("__debug__" : Str)) = false := by decide) (he : starEach (.Name y p' :: es) X.env = (false, eval (.Name y p') X.env) :: starEach es X.env := by rfl) (hpl : (backTo pos (starEach es X.env)).any (·.1) = false := by rfl) : PEd X G (.Call (.Name x p) (.Name y p' :: es) [] pos) (dCall1 j g t) := by
  obtain ⟨f, fd, h1, h2, h3, h4⟩ := c.ex
  exact d_call1 j h1 hr hg h2 h3 h4 tk ha hK hN hv hd hcd hdb he hpl
theorem d_cal1O (j : Nat) (c : Cal X.prog X.w X.K X.mg X.base x ps k g) (hr : Room k X.A) (tk : Takes X (wish G (fun _ _ => False))) (ha : PAd X G es t) (hK : G.K = X.K := by rfl) (hg : Gl X x := by rfl) (hN : X.N[j]? = some y := by rfl) (hv : Vis X.env.scope y := by first | exact Or.inl rfl | exact Or.inr (Or.inl rfl) | exact Or.inr (Or.inr rfl)) (hd : (y == ("__debug__" : Str)) = false := by decide) (hcd : (y == ("__classdict__" : Str)) = false := by decide)
    (hdb : (x == ("__debug__" : Str)) = false := by decide) (he : starEach (.Name y p' :: es) X.env = (false, eval (.Name y p') X.env) :: starEach es X.env := by rfl) (hpl : (backTo pos (starEach es X.env)).any (·.1) = false := by rfl) : POd X G (.Call (.Name x p) (.Name y p' :: es) [] pos) (dCall1O j g t) := by
  obtain ⟨f, fd, h1, h2, h3, h4⟩ := c.ex
  exact d_call1O j h1 hr hg h2 h3 h4 tk ha hK hN hv hd hcd hdb he hpl
end
/-! ### the row of the draws -/
def rowL (ns : List Int) (i r2 r3 : Int) : OD := .lst [.lst (ns.map .int), .int i, .int r2, .int r3]
structure RowOk (ns : List Int) (i r2 r3 : Int) : Prop where
  ns : ∀ n ∈ ns, n.natAbs < 2 ^ 1048577
  i : 0 ≤ i
  p2 : 0 ≤ r2
  b2 : r2.natAbs < 2 ^ 1048577
  p3 : 0 ≤ r3
  b3 : r3 < 2147483647
section
variable {K : PySem.W.Frag} {F H : Hp} {fp : List Addr} {a : Addr}
theorem row_lst (h : OwnAt K F H fp a .row) : ∃ ns i r2 r3, RowOk ns i r2 r3 ∧ OwnAt K F H fp a (rowL ns i r2 r3) := by
  obtain ⟨e, l, ns, i, r2, r3, h, hl, h1, h2, h3, h4, h5, h6⟩ := h
  exact ⟨ns, i, r2, r3, ⟨h1, h2, h3, h4, h5, h6⟩, e, _, h, .cons (.lst hl (AtL.of_ints ns)) (.cons (.int _) (.cons (.int _) (.cons (.int _) .nil)))⟩
theorem lst_row {ns : List Int} {i r2 r3 : Int} (k : RowOk ns i r2 r3) (h : OwnAt K F H fp a (rowL ns i r2 r3)) : OwnAt K F H fp a .row := by
  obtain ⟨e, vs, h, r⟩ := h
  cases r with
  | cons r0 r => cases r with
    | cons r1 r => cases r with
      | cons r2 r => cases r with
        | cons r3 r =>
          cases r
          cases r1
          cases r2
          cases r3
          cases r0 with
          | lst hl rl => exact ⟨e, _, ns, i, _, _, h, by rw [rl.ints] at hl; exact hl, k.ns, k.i, k.p2, k.b2, k.p3, k.b3⟩
/-- other words for what was handed in -/
theorem Sr.pa1 {G : Gx} {B : Hp} {ex : List Addr} {σ : St} {sl : List Sl} {o o' : OD} (S : Sr G B ex F H σ ⟨sl, [o]⟩) (h : ∀ ap, G.pa[0]? = some ap → OwnAt G.K F H ap.2 ap.1 o → OwnAt G.K F H ap.2 ap.1 o') : Sr G B ex F H σ ⟨sl, [o']⟩ :=
  ⟨S.f0, S.gb, S.fn, S.fh, S.bh, S.dom, S.len, S.xf, S.pl, fun k ap u q1 q2 => by
    have q2' : ([o'] : List OD)[k]? = some u := q2
    cases k with
    | succ k => simp at q2'
    | zero =>
      simp at q2'
      subst q2'
      exact h ap q1 (S.par 0 ap o q1 rfl), S.pf, S.pd, S.sl⟩
end
/-- a def that draws: its row taken apart -/
def rowG (g : List Int → Int → Int → Int → List Sl → (Rv → List OD → Prop) → Prop) : Gd := fun ps π R RX => π = [.row] ∧ ∀ ns i r2 r3, RowOk ns i r2 r3 → g ns i r2 r3 ps fun r π' => (∃ i' r2' r3', RowOk ns i' r2' r3' ∧ π' = [rowL ns i' r2' r3']) ∧ R r [.row]
def rowG' (g : List Int → Int → Int → Int → List Sl → (Rv → List OD → Prop) → Prop) : Gd := fun ps π R RX => ∃ ns i r2 r3, RowOk ns i r2 r3 ∧ π = [rowL ns i r2 r3] ∧ g ns i r2 r3 ps R
theorem FnD.row {P : Program} {w : World} {K : PySem.W.Frag} {mg : Str → Option Value} {base : Heap} {k : Nat} {f : Addr} {fd : FuncData} {ps : List Str} {g : List Int → Int → Int → Int → List Sl → (Rv → List OD → Prop) → Prop} (F : FnD P w K mg base k f fd ps (rowG' g)) : FnD P w K mg base k f fd ps (rowG g) := by
  refine FnOk.imp F ?_
  rintro vs H Q E ⟨F, B, pa, qs, π, R, RX, S, ⟨rfl, q⟩, k1, k2⟩
  have pl : pa.length = 1 := S.pl
  obtain ⟨ap, rfl⟩ : ∃ ap, pa = [ap] := by
    match pa, pl with
    | [ap], _ => exact ⟨ap, rfl⟩
  obtain ⟨ns, i, r2, r3, ok, rl⟩ := row_lst (S.par 0 ap .row rfl rfl)
  refine ⟨F, B, [ap], qs, [rowL ns i r2 r3], _, noX, S.pa1 (fun ap' e _ => by cases e; exact rl), ⟨ns, i, r2, r3, ok, rfl, q ns i r2 r3 ok⟩, ?_, fun cls d σ H' ⟨_, _, _, _, _, _, z⟩ => z.elim⟩
  rintro v H' ⟨σ', ⟨sl, π'⟩, ⟨F', y, s', S', r', ⟨i', r2', r3', ok', e⟩, q'⟩ | ⟨F', pp, fpn, on, s', S', e0, r', zz, ⟨i', r2', r3', ok', e⟩, q'⟩⟩
  · cases e
    exact k1 _ _ ⟨σ', ⟨sl, [.row]⟩, .inl ⟨F', y, s', S'.pa1 (fun _ _ => lst_row ok'), r', q'⟩⟩
  · cases e
    exact k1 _ _ ⟨σ', ⟨sl, [.row]⟩, .inr ⟨F', pp, fpn, on, s', S'.pa1 (fun _ _ => lst_row ok'), e0, r', zz, q'⟩⟩
/-- a def that makes a row -/
def mkG (g : List Sl → List OD → (Rv → List OD → Prop) → Prop) : Gd := fun ps π R RX => g ps π fun r π' => ∃ ns i r2 r3, RowOk ns i r2 r3 ∧ r = .own (rowL ns i r2 r3) ∧ R (.own .row) π'
def mkG' (g : List Sl → List OD → (Rv → List OD → Prop) → Prop) : Gd := fun ps π R RX => g ps π R
theorem FnD.mk {P : Program} {w : World} {K : PySem.W.Frag} {mg : Str → Option Value} {base : Heap} {k : Nat} {f : Addr} {fd : FuncData} {ps : List Str} {g : List Sl → List OD → (Rv → List OD → Prop) → Prop} (F : FnD P w K mg base k f fd ps (mkG' g)) : FnD P w K mg base k f fd ps (mkG g) := by
  refine FnOk.imp F ?_
  rintro vs H Q E ⟨F, B, pa, qs, π, R, RX, S, q, k1, k2⟩
  refine ⟨F, B, pa, qs, π, _, noX, S, q, ?_, fun cls d σ H' ⟨_, _, _, _, _, _, z⟩ => z.elim⟩
  rintro v H' ⟨σ', ρ', ⟨F', y, s', S', r', ns, i, r2, r3, ok', e, q'⟩ | ⟨F', pp, fpn, on, s', S', e0, r', zz, ns, i, r2, r3, ok', e, q'⟩⟩
  · cases e
  · cases e
    exact k1 _ _ ⟨σ', ρ', .inr ⟨F', pp, fpn, .row, s', S', e0, lst_row ok' r', zz, q'⟩⟩
end DL

/-! text DLn -/
set_option Elab.async false
set_option linter.all false
set_option maxRecDepth 100000
set_option maxHeartbeats 4000000
namespace DL
open PySem PySem.Spec PyProof.Rows L2 RZ
/-! ### an object of an own class, made -/
section
variable {X : Cx} {k : Nat} {f C : Addr} {fd : FuncData} {ps : List Str} {sp : Sp} {E : St → XK} {x : Str} {p pos : Pos} {e : Expr} {es : List Expr} {t : TA}
theorem made_run {pn : List (Addr × Obj)} {σ : St} {H : Hp} {s0 : Shared} {Q : VK} {us : List Value} {vs : List V} (M : Mk X.K C f) (F : FnOk X.prog X.w X.K X.mg X.base (L2.CX X.prog X.w) k f fd ps sp) (rm : Room (k + 1) X.A) (bs : Binds X.K fd ps [])
    (pt : PassesAt (L2.CX X.prog X.w) X σ (E σ)) (I : Inv X pn σ H s0) (r : Vals vs us)
    (h : ∀ x dx, H x = none → H dx = none → dx ≠ x → sp (.ref x :: vs) (upd (upd H dx (.own x)) x (.ins C dx [])) (fun v H2 => v = .non ∧ Q (.ref x) H2) (E σ)) :
    wpAny (model X.prog X.w) X.A (call (.ref C) us) (EP X pn σ Q) X.xe s0 := by
  have z0 := I.hok.fresh (Nat.le_refl s0.heap.objs.size)
  have z1 := I.hok.fresh (Nat.le_succ s0.heap.objs.size)
  have asked := h _ _ z1 z0 (Nat.ne_of_lt (Nat.lt_succ_self _))
  have J := Inv.made (C := C) I
  have rr : Vals (V.ref (s0.heap.objs.size + 1) :: vs) (Value.ref (s0.heap.objs.size + 1) :: us) := .cons rfl r
  have len : (Value.ref (s0.heap.objs.size + 1) :: us).length = ps.length := by
    rw [← rr.length]
    exact F.len _ _ _ _ asked
  have bd := bs { s0 with heap := (s0.heap.push PySem.W.emptyDict).push (PySem.W.instObj C s0.heap.objs.size) } (Value.ref (s0.heap.objs.size + 1) :: us) J.kIn (by rw [List.append_nil]; exact len)
  rw [List.append_nil] at bd
  have go := F.run _ X.stack _ _ ⟨Value.ref (s0.heap.objs.size + 1) :: us, []⟩ (Value.ref (s0.heap.objs.size + 1) :: us) _ _ (E σ) (rm.make C us []) (J.env0.make C us []) bd rr asked
  refine wpAny_call (make_map (f := f) I.kIn M.makes M.init (beq_iff_eq.mp M.fn) (codeAny_mono go ?_))
  intro res s2 got
  match res, got with
  | .error er, got => exact pt pn _ _ er s2 J got
  | .ok (.ret u), got =>
    obtain ⟨v, H', I3, rv, ev, last⟩ := J.after got
    cases ev
    exact ⟨rv, V.ref (s0.heap.objs.size + 1), H', I3, rfl, last⟩
def tMakeS (C : Addr) (sp : Sp) (E : St → XK) (t : TA) : TE := fun σ H Q => t σ H fun vs H1 => ∀ x dx, H1 x = none → H1 dx = none → dx ≠ x → sp (.ref x :: vs) (upd (upd H1 dx (.own x)) x (.ins C dx [])) (fun v H2 => v = .non ∧ Q (.ref x) H2) (E σ)
theorem pe_makeS (M : Mk X.K C f) (F : FnOk X.prog X.w X.K X.mg X.base (L2.CX X.prog X.w) k f fd ps sp) (rm : Room (k + 1) X.A) (hg : Gl X x) (hm : X.mg x = some (.ref C)) (bs : Binds X.K fd ps []) (pt : ∀ σ, PassesAt (L2.CX X.prog X.w) X σ (E σ)) (ha : PA X (e :: es) t)
    (hdb : (x == ("__debug__" : Str)) = false := by decide) (he : starEach (e :: es) X.env = (false, eval e X.env) :: starEach es X.env := by rfl) (hpl : (backTo pos (starEach es X.env)).any (·.1) = false := by rfl) : PE X (.Call (.Name x p) (e :: es) [] pos) (tMakeS C sp E t) := by
  constructor
  intro pn s0 σ H Q I h
  refine wpAny_Call_Name_kw (ld_glob I hg hm (PySem.W.callWith_K (h₀ := X.base) I.ok.mod.kin M.kp (thn (ha.run pos pn s0 σ H _ I h) ?_) he hpl) hdb)
  rintro us s1 ⟨vs, H1, I1, r, q⟩
  exact ⟨I1.kIn, made_run M F rm bs (pt σ) I1 r q⟩
end
section
variable {G : Gx} {B F H F' H' : Hp} {σ : St} {ρ : En} {ex fp fpn : List Addr} {o : OD}
/-- a thing that no slot owns has changed -/
theorem Sr.chgX (S : Sr G B (fp ++ ex) F H σ ρ) (z : ∀ x ∈ fp, F x = none ∧ G.H0 x = none ∧ B x = none) (C : Chg F H F' H' fp []) : Sr G B (fp ++ ex) F' H' σ ρ := by
  have stayF : ∀ x, H x ≠ none → F x = none → F' x = none := fun x a1 a2 => by
    cases q : F' x with
    | none => rfl
    | some u => rcases C.n x (by rw [q]; simp) with w | w; exact absurd a2 w; exact absurd w a1
  obtain ⟨ad, h1, h2, h3⟩ := S.sl
  refine ⟨S.f0.trans C.f, S.gb, fun b hb => ?_, C.fh, fun b u hb => ?_, fun b hb => S.dom b (C.d b hb), S.len, fun x hx => ⟨stayF x (S.xf x hx).2 (S.xf x hx).1, fun w => (S.xf x hx).2 (C.d x w)⟩, S.pl, fun k ap ob q1 q2 => ?_, fun ap hap x hx => ?_, S.pd, ad, fun i s hs => ?_, h2, h3⟩
  · rcases C.n b hb with w | w
    · exact S.fn b w
    · exact .inr (S.dom b w)
  · have w := S.bh b u hb
    rw [C.k b (fun hx => by rw [(z b hx).2.2] at hb; cases hb) (by rw [w]; simp)]
    exact w
  · have w := S.par k ap ob q1 q2
    exact w.stay C.f fun x hx => C.k x (fun hm => (S.pf ap (List.mem_of_getElem? q1) x hx).2.2 (z x hm).2.1) (w.there x hx)
  · obtain ⟨q1, q2, q3⟩ := S.pf ap hap x hx
    exact ⟨stayF x (fun w => q3 (S.dom x w)) q1, q2, q3⟩
  · have w := h1 i s hs
    cases s with
    | no => trivial
    | d x => obtain ⟨v, e', r'⟩ := w; exact ⟨v, e', r'.mono C.f⟩
    | own ob =>
      obtain ⟨a', e', r', z'⟩ := w
      exact ⟨a', e', r'.stay C.f fun x hx => C.k x (fun hm => h2 i ob hs x hx (List.mem_append_left _ hm)) (r'.there x hx), fun x hx => ⟨stayF x (r'.there x hx) (z' x hx).1, (z' x hx).2⟩⟩
    | par k => exact w
    | pin a => exact w
    | xn a dd y => obtain ⟨e1, v1, e2, e3⟩ := w; exact ⟨e1, v1, C.f _ _ e2, e3.mono C.f⟩
end
def dMakeO (C : Addr) (g : Gd) (RX : RXd) (t : TAd) : TOd := fun ρ Q => t ρ fun ds ρ1 => g (.par 0 :: ds.map .d) [.ins C []] (fun r π => r = .d .non ∧ ∃ o, π[0]? = some o ∧ Q o ρ1) (fun x _ => RX x ρ1)
/-- a class of the text that can be made, with its __init__ -/
structure Mak (P : Program) (w : World) (K : PySem.W.Frag) (mg : Str → Option Value) (base : Heap) (x : Str) (C : Addr) (ps : List Str) (k : Nat) (g : Gd) : Prop where
  ex : ∃ f fd, FnD P w K mg base k f fd ps g ∧ Mk K C f ∧ mg x = some (.ref C) ∧ L2.Binds K fd ps []
section
variable {X : Cx} {G : Gx} {RX : RXd} {k : Nat} {C : Addr} {ps : List Str} {g : Gd} {x : Str} {p pos : Pos} {e : Expr} {es : List Expr} {t : TAd}
theorem d_makeO (c : Mak X.prog X.w X.K X.mg X.base x C ps k g) (hr : Room (k + 1) X.A) (tk : Takes X (wish G RX)) (ha : PAd X G (e :: es) t) (hK : G.K = X.K := by rfl) (hg : Gl X x := by rfl) (hdb : (x == ("__debug__" : Str)) = false := by decide)
    (he : starEach (e :: es) X.env = (false, eval e X.env) :: starEach es X.env := by rfl) (hpl : (backTo pos (starEach es X.env)).any (·.1) = false := by rfl) : POd X G (.Call (.Name x p) (e :: es) [] pos) (dMakeO C g RX t) := by
  obtain ⟨f, fd, F, M, hm, hb⟩ := c.ex
  obtain ⟨tu, h1, h2⟩ := ha
  refine ⟨_, pe_makeS M F hr hg hm hb (fun σ => passAt tk σ) h1 hdb he hpl, fun B ex F H σ ρ Q Qh S q kk => h2 B ex F H σ ρ _ _ S q ?_⟩
  rintro vs H1 ⟨F1, ds, ρ1, s1, S1, r1, q1⟩ x dx nx ndx ne
  have ndx' : upd H1 dx (HO.own x) x = none := by rw [upd_ne ne.symm]; exact nx
  have S2 : Sr G B (x :: dx :: ex) F1 (upd (upd H1 dx (.own x)) x (.ins C dx [])) σ ρ1 := (S1.newX ndx).newX ndx'
  have own : OwnAt G.K F1 (upd (upd H1 dx (.own x)) x (.ins C dx [])) [x, dx] x (.ins C []) :=
    ⟨dx, [], [], rfl, ne.symm, by simp, by simp, upd_same, by rw [upd_ne ne, upd_same], rfl, .nil⟩
  have zz : ∀ y ∈ [x, dx], F1 y = none ∧ G.H0 y = none ∧ B y = none := fun y hy => by
    rcases List.mem_cons.mp hy with w | w
    · subst w; exact ⟨S1.ffree nx, S1.dom _ nx, S1.bfree nx⟩
    · rw [List.mem_singleton] at w; subst w; exact ⟨S1.ffree ndx, S1.dom _ ndx, S1.bfree ndx⟩
  have oth : ∀ y, y ∉ [x, dx] → upd (upd H1 dx (HO.own x)) x (.ins C dx []) y = H1 y := fun y hy => by
    rw [upd_ne (fun w => hy (by rw [w]; simp)), upd_ne (fun w => hy (by rw [w]; simp))]
  refine ⟨F1, offB (upd (upd H1 dx (HO.own x)) x (HO.ins C dx [])) [x, dx], [(x, [x, dx])], .par 0 :: ds.map .d, [.ins C []], fun r π => r = .d .non ∧ ∃ o, π[0]? = some o ∧ Q o ρ1, fun x _ => RX x ρ1, ?_, q1, ?_, ?_⟩
  · rw [← hK]
    exact S2.callee1 own (fun y hy => (zz y hy).1) r1
  · rw [← hK]
    rintro v H' ⟨σ', ρ', ⟨F', y, s', S', r', ey, o2, ho2, q2⟩ | ⟨F', pp, fpn, on, s', S', e, r', zz, ey, _⟩⟩
    · cases ey
      have r2 := pa_one S' ho2
      cases r'
      refine ⟨rfl, kk _ _ ⟨F', x, [x, dx], o2, ρ1, s1.trans s', ?_, rfl, r2, fun y hy => ?_, fun y hy hm => ?_, q2⟩⟩
      · exact Sr.chgX (fp := [x, dx]) (ex := ex) S2 zz (.of S' (fun y hy => absurd hy (by simp)))
      · refine ⟨?_, (zz y hy).2⟩
        cases w : F' y with
        | none => rfl
        | some u =>
          rcases S'.fn y (by rw [w]; simp) with w | w
          · exact absurd (zz y hy).1 w
          · exact absurd w (own.there y hy)
      · rcases List.mem_cons.mp hm with w | w
        · subst w; exact (S1.xf _ hy).2 nx
        · rw [List.mem_singleton] at w; subst w; exact (S1.xf _ hy).2 ndx
    · cases ey
  · rw [← hK]
    rintro cls d σ' H' ⟨B', F', ρ', y, S', r', q'⟩
    refine ⟨B, F', ρ1, y, (S1.weak (Same.refl B) S1.gb (fun x hx => absurd hx (by simp))).grow S'.f0 (fun b hb => ?_) S'.fh (fun b u hb => ?_), r', q'⟩
    · rcases S'.fn b hb with w | w
      · exact .inl w
      · refine .inr ?_
        by_cases m : b ∈ [x, dx]
        · exact absurd w (own.there b m)
        · rw [← oth b m]; exact w
    · have m : b ∉ [x, dx] := fun m => by
        rcases List.mem_cons.mp m with w | w
        · subst w; rw [nx] at hb; cases hb
        · rw [List.mem_singleton] at w; subst w; rw [ndx] at hb; cases hb
      exact S'.bh b u (S'.gb b u (by show offB _ [x, dx] b = _; unfold offB; rw [if_neg m, oth b m]; exact hb))
/-- a thing of one's own, held still -/
def dStill (t : TOd) : TEd := fun ρ Q => t ρ fun o ρ1 => o.still = true ∧ Q o.toD ρ1
theorem d_still {t : TOd} (h : POd X G e t) : PEd X G e (dStill t) := by
  obtain ⟨w, a1, a2⟩ := h
  refine ⟨w, a1, fun B ex F H σ ρ Q Qh S q k => a2 B ex F H σ ρ _ _ S q ?_⟩
  rintro v H1 ⟨F1, p, fp, o, ρ1, s1, S1, rfl, r1, z1, dj, ho, q1⟩
  obtain ⟨F2, s2, S2, r2⟩ := S1.still r1 z1 dj ho
  exact k _ _ ⟨F2, _, ρ1, s1.trans s2, S2, r2, q1⟩
end
/-! ### attributes of an object that may change -/
def putFv (f : Str) (v : Fv) (fs : List (Str × Fv)) : List (Str × Fv) := fs ++ [(f, v)]
theorem putF_end {f : Str} {v : V} : ∀ {fs : List (Str × V)}, f ∉ fs.map (·.1) → putF f v fs = fs ++ [(f, v)]
  | [], _ => rfl
  | (g, x) :: r, h => by
    unfold putF
    rw [if_neg (fun w => h (by rw [← w]; simp)), putF_end (fun w => h (by simp [w]))]
    rfl
theorem FvAt.put {K : PySem.W.Frag} {F H : Hp} {v : V} {d : D} (r : At K F v d) : ∀ {ls : List Addr} {vs : List V} {fs : List Fv}, FvAt K F H ls vs fs → FvAt K F H ls (vs ++ [v]) (fs ++ [.d d])
  | _, _, _, .nil => .d r .nil
  | _, _, _, .d q k => .d q (k.put r)
  | _, _, _, .l h q n k => .l h q n (k.put r)
def dFldP (K : PySem.W.Frag) (j : Nat) (te : TEd) (f : Str) : TSd := fun D ρ => te ρ fun d ρ1 => match ρ1.thing j with
  | some (.ins C fs) => Cls K C ∧ NoAttr K C f ∧ fs.length < 1000 ∧ f ∉ fs.map (·.1) ∧ D.nx (ρ1.chg j (.ins C (putFv f (.d d) fs)))
  | _ => False
section
variable {X : Cx} {G : Gx} {f x : Str} {p pos pos' : Pos} {e : Expr} {te : TEd}
theorem ds_fldP (j : Nat) (he : PEd X G e te) (hK : G.K = X.K := by rfl) (hN : X.N[j]? = some x := by rfl) (hv : Vis X.env.scope x := by first | exact Or.inl rfl | exact Or.inr (Or.inl rfl) | exact Or.inr (Or.inr rfl)) (hd : (x == ("__debug__" : Str)) = false := by decide) (hcd : (x == ("__classdict__" : Str)) = false := by decide)
    (hs : swapsWith e (some (.Attribute (.Name x p) f pos')) pos.line X.env = pure false := by rfl) : PSd X G (.Assign [.Attribute (.Name x p) f pos'] e pos) (dFldP G.K j te f) := by
  obtain ⟨u, b1, b2⟩ := he
  refine ⟨_, ps_fld (pe_var (i := j) hN hv hd hcd) b1 hs, fun B F H σ ρ Dd D' S q k => b2 B [] F H σ ρ _ _ S q ?_⟩
  rintro v H1 ⟨F1, d, ρ1, s1, S1, r1, q1⟩
  split at q1
  · rename_i C fs e1
    obtain ⟨c, na, hl, nf, q2⟩ := q1
    obtain ⟨a, fp, e, r, z, bk⟩ := S1.thing e1
    obtain ⟨dx, ls, vs, efp, n1, n2, n3, ha, hx, hn, rv⟩ := r
    have nf' : f ∉ vs.map (·.1) := by rw [hn]; exact nf
    have hl' : vs.length < 1000 := by
      have := congrArg List.length hn
      rw [List.length_map, List.length_map] at this
      omega
    refine ⟨_, e, a, C, dx, vs, rfl, ha, by rw [← hK]; exact c, by rw [← hK]; exact na, hl', k.nx _ _ ⟨F1, _, s1, ?_, q2⟩⟩
    have am : a ∈ fp := by rw [efp]; simp
    have w := bk F1 (upd H1 a (.ins C dx (putF f v vs))) (.ins C (putFv f (.d d) fs)) [] (.put S1 (z a am).1 (by rw [ha]; simp) am) ?_
    · simpa using w
    · refine ⟨dx, ls, _, efp, n1, n2, n3, upd_same, by rw [upd_ne n1.symm]; exact hx, ?_, ?_⟩
      · rw [putF_end nf']
        unfold putFv
        rw [List.map_append, List.map_append, hn]
        rfl
      · rw [putF_end nf']
        unfold putFv
        rw [List.map_append, List.map_append]
        have w := (rv.stay (Same.refl F1) (H' := upd H1 a (.ins C dx (putF f v vs))) fun x hx => upd_ne (fun w => n2 (by rw [← w]; exact hx))).put r1
        rw [putF_end nf'] at w
        exact w
  · exact q1.elim
/-- an attribute that is a datum -/
def dFldT (K : PySem.W.Frag) (j : Nat) (f : Str) : TEd := fun ρ Q => match ρ.thing j with
  | some (.ins C fs) => Cls K C ∧ NoAttr K C f ∧ ∃ d, fs.lookup f = some (.d d) ∧ Q d ρ
  | _ => False
theorem lookup_fv {K : PySem.W.Frag} {F H : Hp} {f : Str} {d : D} : ∀ {ls : List Addr} {vs : List (Str × V)} {fs : List (Str × Fv)}, vs.map (·.1) = fs.map (·.1) → FvAt K F H ls (vs.map (·.2)) (fs.map (·.2)) → fs.lookup f = some (.d d) → ∃ w, vs.lookup f = some w ∧ At K F w d
  | _, [], [], _, _, h => by simp [List.lookup] at h
  | _, [], _ :: _, h, _, _ => by simp at h
  | _, _ :: _, [], h, _, _ => by simp at h
  | _, (n, w) :: vs, (m, u) :: fs, hn, hr, h => by
    simp only [List.map_cons, List.cons.injEq] at hn
    obtain ⟨rfl, hn⟩ := hn
    unfold List.lookup at h ⊢
    cases e : f == n with
    | true =>
      rw [e] at h
      have h' := Option.some.inj h
      subst h'
      cases hr with
      | d r hr => exact ⟨w, rfl, r⟩
    | false =>
      rw [e] at h
      cases hr with
      | d r hr => exact lookup_fv hn hr h
      | l _ _ _ hr => exact lookup_fv hn hr h
theorem d_fldT (j : Nat) (hK : G.K = X.K := by rfl) (hN : X.N[j]? = some x := by rfl) (hv : Vis X.env.scope x := by first | exact Or.inl rfl | exact Or.inr (Or.inl rfl) | exact Or.inr (Or.inr rfl)) (hd : (x == ("__debug__" : Str)) = false := by decide) (hcd : (x == ("__classdict__" : Str)) = false := by decide)
    (hb : attributeBase (.Name x p) f X.env (eval (.Name x p) X.env) = eval (.Name x p) X.env := by rfl) : PEd X G (.Attribute (.Name x p) f pos) (dFldT G.K j f) := by
  refine ⟨_, pe_fld (pe_var (i := j) hN hv hd hcd) hb, fun B ex F H σ ρ Q Qh S q k => ?_⟩
  unfold dFldT at q
  split at q
  · rename_i C fs e1
    obtain ⟨c, na, d, hl, q1⟩ := q
    obtain ⟨a, fp, e, r, z, bk⟩ := S.thing e1
    obtain ⟨dx, ls, vs, efp, n1, n2, n3, ha, hx, hn, rv⟩ := r
    obtain ⟨w, hw, rw_⟩ := lookup_fv hn rv hl
    exact ⟨_, e, a, C, dx, vs, w, rfl, ha, by rw [← hK]; exact c, by rw [← hK]; exact na, hw, k _ _ ⟨F, d, ρ, Same.refl F, S, rw_, q1⟩⟩
  · exact q.elim
end
end DL

/-! text DLo -/
set_option Elab.async false
set_option linter.all false
set_option maxRecDepth 100000
set_option maxHeartbeats 4000000
namespace DL
open PySem PySem.Spec PyProof.Rows L2 RZ
/-! ### what a law's text gives: the written part, the classes' places, whether errors are told -/
structure Kx where
  K : PySem.W.Frag
  cl : String → Addr
  ex : Bool
def noRX : RXd := fun _ _ => False
def dRz (k : Kx) (nm : String) (RX : RXd) : TSd := fun D ρ => k.ex = true ∧ RX ⟨k.cl nm, none⟩ ρ
def dRz1 (k : Kx) (nm : String) (RX : RXd) (te : TEd) : TSd := fun D ρ => k.ex = true ∧ te ρ fun x ρ1 => RX ⟨k.cl nm, some x⟩ ρ1
section
variable {X : Cx} {G : Gx} {k : Kx} {st : Stmt} {nm : String} {RX : RXd} {pos pos' p2 : Pos} {e a b : Expr} {te ta tb th : TEd} {x : Str}
theorem dz_off (h : k.ex = false) : PSd X G st (dRz k nm RX) := ⟨_, ps_never, fun _ _ _ _ _ _ _ _ q _ => Bool.noConfusion (h.symm.trans q.1)⟩
theorem dz1_off (h : k.ex = false) : PSd X G st (dRz1 k nm RX te) := ⟨_, ps_never, fun _ _ _ _ _ _ _ _ q _ => Bool.noConfusion (h.symm.trans q.1)⟩
/-! ### += and -= of ints; a[:e] of a list -/
def oIAdd : R2d := fun x y Q => match x, y with
  | .int i, .int j => Q (.int (i + j))
  | _, _ => False
def oISub : R2d := fun x y Q => match x, y with
  | .int i, .int j => Q (.int (i - j))
  | _, _ => False
theorem aug_add (j : Nat) (he : PEd X G e te) (hN : X.N.Nodup) (hi : X.N[j]? = some x := by rfl) (hx : Loc X.env.scope x := by first | exact Or.inl rfl | exact Or.inr rfl) (hf : X.fn x = true ∨ X.env.scope.names.lookup x = some .local := by first | exact .inl rfl | exact .inr rfl | assumption) :
    PSd X G (.AugAssign (.Name x pos') .Add e pos) (dAug j oIAdd te) := ds_augI j ip_add (fun x y Q q => by unfold oIAdd at q; split at q; exact ⟨_, _, rfl, rfl, q⟩; exact q.elim) he hN hi hx hf
theorem aug_sub (j : Nat) (he : PEd X G e te) (hN : X.N.Nodup) (hi : X.N[j]? = some x := by rfl) (hx : Loc X.env.scope x := by first | exact Or.inl rfl | exact Or.inr rfl) (hf : X.fn x = true ∨ X.env.scope.names.lookup x = some .local := by first | exact .inl rfl | exact .inr rfl | assumption) :
    PSd X G (.AugAssign (.Name x pos') .Sub e pos) (dAug j oISub te) := ds_augI j ip_sub (fun x y Q q => by unfold oISub at q; split at q; exact ⟨_, _, rfl, rfl, q⟩; exact q.elim) he hN hi hx hf
def dSlH (ta th : TEd) : TEd := fun ρ Q => ta ρ fun x ρ1 => th ρ1 fun y ρ2 => match x, y with
  | .lst l, .int n => 0 ≤ n ∧ Q (.lst (l.take n.toNat)) ρ2
  | _, _ => False
theorem cut_take {xs : List V} {n : Int} (h : 0 ≤ n) : cutV xs none (some n) = xs.take n.toNat := by
  obtain ⟨m, rfl⟩ : ∃ m : Nat, n = m := ⟨n.toNat, by omega⟩
  unfold cutV
  rw [HT.sIx_none, HT.sIx_nat, List.drop_zero, Int.toNat_natCast, Nat.sub_zero]
  by_cases h : m ≤ xs.length
  · rw [Nat.min_eq_left h]
  · rw [Nat.min_eq_right (by omega), List.take_of_length_le (Nat.le_refl _), List.take_of_length_le (by omega)]
theorem d_slH (ha : PEd X G a ta) (hb : PEd X G b th) (hK : G.K = X.K := by rfl) : PEd X G (.Subscript a (.Slice none (some b) none p2) pos) (dSlH ta th) := by
  obtain ⟨w, a1, a2⟩ := ha
  obtain ⟨u, b1, b2⟩ := hb
  refine ⟨_, pe_slice sl_list a1 po_none (po_some b1), fun B ex F H σ ρ Q Qh S q k => a2 B ex F H σ ρ _ _ S q ?_⟩
  rintro v H1 ⟨F1, d, ρ1, s1, S1, r1, q1⟩
  refine b2 B ex F1 H1 σ ρ1 _ _ S1 q1 ?_
  rintro y H2 ⟨F2, d2, ρ2, s2, S2, r2, q2⟩
  split at q2
  · rename_i l n
    cases r2
    cases r1 with
    | lst e r =>
      refine ⟨n, rfl, _, _, rfl, SqL.of (S2.fh _ _ (s2 _ _ e)), fun p hp => ?_⟩
      rw [cut_take q2.1]
      exact k _ _ ⟨upd F2 p (.lst _), _, ρ2, (s1.trans s2).trans (same_new (S2.ffree hp)), S2.new hp, .lst upd_same (((r.mono s2).take _).mono (same_new (S2.ffree hp))), q2.2⟩
  · exact q2.elim
end
/-! ### a def's promise and its reading -/
/-- m parameters, n further slots; the promise gives the reading -/
structure Rok (m n : Nat) (g : Gd) (t : RXd → TSd) : Prop where
  len : ∀ qs π R RX, g qs π R RX → qs.length = m
  run : ∀ qs π R RX, g qs π R RX → t (fun x ρ => RX x ρ.pa) { nx := fun ρ => R (.d .non) ρ.pa, rt := fun r ρ => R r ρ.pa } ⟨qs ++ List.replicate n .no, π⟩
/-- an own class's __init__ -/
def MDef (K : PySem.W.Frag) (mg : Str → Option Value) (x : Str) (C : Addr) (q : Str) (st : Stmt) (ps : List Str) : Prop := ∃ f fd, Fun K "__init__" q st f fd ∧ Mk K C f ∧ mg x = some (.ref C) ∧ L2.Binds K fd ps []
theorem MDef.ok {P : Program} {w : World} {K : PySem.W.Frag} {mg : Str → Option Value} {base : Heap} {x q : Str} {C : Addr} {st : Stmt} {N ps : List Str} {k n : Nat} {g : Gd} (d : MDef K mg x C q st ps) (S : FnScope N ps (defScope st))
    (hl : ∀ qs π R RX, g qs π R RX → qs.length = ps.length) (hn : N.length - ps.length = n)
    (hb : ∀ (f : Addr) (cdv : Value) (A : Around) (outer : List Env) (s : Shared) (H : Hp) (E : XK) (F B : Hp) (pa : List (Addr × List Addr)) (RX : Exn → List OD → Prop), Room k (A.deeper (envOfC q (defScope st) s.heap.objs.size f cdv)) →
      Takes (cxOf (L2.CX P w) P w K mg base N q (defScope st) f cdv A outer s H E) (wish ⟨K, F, H, B, pa⟩ (fun x ρ => RX x ρ.pa)) →
      ∃ t, PSsd (cxOf (L2.CX P w) P w K mg base N q (defScope st) f cdv A outer s H E) ⟨K, F, H, B, pa⟩ (defBody st) t ∧
        ∀ qs π R, g qs π R RX → t { nx := fun ρ => R (.d .non) ρ.pa, rt := fun r ρ => R r ρ.pa } ⟨qs ++ List.replicate n .no, π⟩) : Mak P w K mg base x C ps (k + 1) g := by
  obtain ⟨f, fd, h1, h2, h3, h4⟩ := d
  exact ⟨f, fd, fn_d h1 S hl hn (hb f), h2, h3, h4⟩
section
variable {P : Program} {w : World} {K : PySem.W.Frag} {mg : Str → Option Value} {base : Heap} {x : Str} {ps : List Str} {k : Nat}
theorem Cal.row {g : List Int → Int → Int → Int → List Sl → (Rv → List OD → Prop) → Prop} (c : Cal P w K mg base x ps k (rowG' g)) : Cal P w K mg base x ps k (rowG g) := by
  obtain ⟨f, fd, h, r⟩ := c.ex
  exact ⟨f, fd, h.row, r⟩
theorem Cal.mk' {g : List Sl → List OD → (Rv → List OD → Prop) → Prop} (c : Cal P w K mg base x ps k (mkG' g)) : Cal P w K mg base x ps k (mkG g) := by
  obtain ⟨f, fd, h, r⟩ := c.ex
  exact ⟨f, fd, h.mk, r⟩
end
theorem takes_not {X : Cx} {G : Gx} : Takes X (wish G (fun _ _ => False)) := takes_none
/-! ### a comprehension that reads, and changes nothing -/
theorem backL_wipe (l : List Sl) (i : Nat) (h : i < l.length) : backL (wipeL l [i]) l [i] = l := by
  apply List.ext_getElem?
  intro j
  show (List.set (List.set l i .no) i (l.getD i .no))[j]? = l[j]?
  rw [List.set_set]
  by_cases e : i = j
  · subst e
    rw [List.getElem?_set_self h, List.getD_eq_getElem?_getD, List.getElem?_eq_getElem h]
    rfl
  · rw [List.getElem?_set_ne e]
/-- the slots in the block -/
def En.in1 (ρ : En) (i : Nat) (d : D) : En := ⟨(ρ.sl.set i .no).set i (.d d), ρ.pa⟩
theorem lc_pure {ti : TId} {tt : TTd} {te : TEd} {i : Nat} {ρ : En} {Q : D → En → Prop} (xs : List D) (p : D → Bool) (f : D → D) (hi : ∀ Qi : List D → En → Prop, Qi xs ρ → ti ρ Qi) (h : i < ρ.sl.length) (hc : ∀ o, ρ.sl[i]? ≠ some (.own o)) (hl : xs.length ≤ sizeLine)
    (ht : ∀ d ∈ xs, ∀ Q : Bool → En → Prop, Q (p d) (ρ.in1 i d) → tt (ρ.in1 i d) Q) (he : ∀ d ∈ xs, p d = true → ∀ Q : D → En → Prop, Q (f d) (ρ.in1 i d) → te (ρ.in1 i d) Q) (q : Q (.lst ((xs.filter p).map f)) ρ) : dLc ti (gN i) tt te [i] ρ Q := by
  refine hi _ ⟨fun j hj o => ?_, fun n acc ρ' => ρ' = ρ.wipe [i] ∧ acc = ((xs.take n).filter p).map f, ⟨rfl, by simp⟩, ?_, ?_⟩
  · rw [List.mem_singleton] at hj
    subst hj
    exact hc o
  · rintro n d acc ρ' hd ⟨rfl, ea⟩
    have hm : d ∈ xs := List.mem_of_getElem? hd
    have hn : n < xs.length := (List.getElem?_eq_some_iff.mp hd).1
    have tk : xs.take (n + 1) = xs.take n ++ [d] := by
      rw [List.take_add_one, hd]
      rfl
    have w : ∀ d, (En.mk ((ρ.sl.set i .no).set i (.d d)) ρ.pa).wipe [i] = ρ.wipe [i] := fun d => by
      unfold En.wipe wipeL wipeL
      simp
    refine ht d hm _ ?_
    by_cases e : p d = true
    · rw [if_pos e]
      refine he d hm e _ ⟨?_, w d, ?_⟩
      · rw [ea, List.length_map]
        have := List.length_filter_le p (xs.take n)
        rw [List.length_take] at this
        omega
      · rw [tk, List.filter_append, List.map_append, ea]
        simp [e]
    · rw [if_neg e]
      refine ⟨w d, ?_⟩
      rw [tk, List.filter_append, List.map_append, ea]
      simp [e]
  · rintro acc ρ' ⟨rfl, ea⟩
    rw [List.take_of_length_le (Nat.le_refl _)] at ea
    rw [ea]
    have e : (ρ.wipe [i]).back ρ [i] = ρ := by
      unfold En.wipe En.back
      rw [backL_wipe _ _ h]
    rw [e]
    exact q
/-- without a condition -/
theorem lc_map {ti : TId} {te : TEd} {i : Nat} {ρ : En} {Q : D → En → Prop} (xs : List D) (f : D → D) (hi : ∀ Qi : List D → En → Prop, Qi xs ρ → ti ρ Qi) (h : i < ρ.sl.length) (hc : ∀ o, ρ.sl[i]? ≠ some (.own o)) (hl : xs.length ≤ sizeLine)
    (he : ∀ d ∈ xs, ∀ Q : D → En → Prop, Q (f d) (ρ.in1 i d) → te (ρ.in1 i d) Q) (q : Q (.lst (xs.map f)) ρ) : dLc ti (gN i) dYes te [i] ρ Q :=
  lc_pure xs (fun _ => true) f hi h hc hl (fun d _ Q q => q) (fun d hd _ => he d hd) (by rw [List.filter_eq_self.mpr (fun _ _ => rfl)]; exact q)
/-! ### the end of a law -/
def clsOf : List (String × Addr) → String → Addr
  | [], _ => 0
  | (x, a) :: r, n => if n = x then a else clsOf r n
theorem cx_none {P : Program} (w : World) (H : Hp) (s : Shared) (e : Value) (s' : Shared) (z : L2.CX P w [] H s (fun _ _ _ => False) e s') : False := by
  obtain ⟨_, _, _, _, _, _, _, _, _, _, _, _, z⟩ := z
  exact z.elim
theorem bits_lt {z : Int} (h : Builtin.Int.intBits z ≤ 1048576) : z.natAbs < 2 ^ 1048577 := by
  unfold Builtin.Int.intBits at h
  by_cases e : z.natAbs = 0
  · rw [e]; exact Nat.pow_pos (by decide)
  · have h1 : z.natAbs < 2 ^ (z.natAbs.log2 + 1) := Nat.lt_log2_self
    have e0 : (z == 0) = false := by
      cases w : z == 0 with
      | false => rfl
      | true => exact absurd (by rw [eq_of_beq w]; rfl) e
    rw [e0] at h
    have h2 : z.natAbs.log2 + 1 ≤ 1048577 := Nat.le_succ_of_le h
    exact Nat.lt_of_lt_of_le h1 (Nat.pow_le_pow_right (by decide) h2)
/-- the promise of law's def, from the promise over data -/
theorem law_end {K : PySem.W.Frag} {g : Gd} {H : Hp} {a : Addr} {ns : List Int} (hS : SqL K H a (ns.map V.int)) (hb : ∀ z ∈ ns, Builtin.Int.intBits z ≤ 1048576)
    (hg : ∀ (R : Rv → List OD → Prop) (RX : Exn → List OD → Prop), (∀ n ∈ ns, n.natAbs < 2 ^ 1048577) → R (.d (.bl true)) [] → g [.d (.scr ns)] [] R RX) : SpD K g [.ref a] H (fun v _ => v = .bl true) fun _ _ _ => False := by
  refine ⟨H, fun _ => none, [], [.d (.scr ns)], [], fun r _ => r = .d (.bl true), noX, ?_, hg _ _ (fun n hn => bits_lt (hb n hn)) rfl, ?_, ?_⟩
  · refine ⟨Same.refl H, Same.refl _, fun a h => .inl h, Same.refl H, fun b u e => (by cases e), fun a h => h, rfl, fun x hx => absurd hx (by simp), rfl, fun k ap o h => absurd (show ([] : List (Addr × List Addr))[k]? = some ap from h) (by simp), fun ap h => absurd (show ap ∈ ([] : List (Addr × List Addr)) from h) (by simp),
      fun j k ap bp h => absurd (show ([] : List (Addr × List Addr))[j]? = some ap from h) (by simp), fun _ => [], fun i s hs => ?_, fun i o hs => ?_, fun i j o u hi => ?_⟩
    · have hs' : ([Sl.d (.scr ns)] : List Sl)[i]? = some s := hs
      cases i with
      | succ i => simp at hs'
      | zero =>
        simp at hs'
        subst hs'
        exact ⟨.ref a, rfl, .scr hS⟩
    · simp
    · have hs' : ([Sl.d (.scr ns)] : List Sl)[i]? = some (.own o) := hi
      cases i with
      | succ i => simp at hs'
      | zero => simp at hs'
  · rintro v H' ⟨σ', ρ', ⟨F', y, s', S', r', q'⟩ | ⟨F', pp, fpn, on, s', S', e0, r', zz, q'⟩⟩
    · cases q'
      cases r'
      rfl
    · cases q'
  · rintro cls d σ H' ⟨_, _, _, _, _, _, z⟩
    exact z.elim
/-- what law's def promises -/
def lawG : Gd := fun ps π R RX => ∃ ns : List Int, ps = [.d (.scr ns)] ∧ π = [] ∧ (∀ n ∈ ns, n.natAbs < 2 ^ 1048577) ∧ R (.d (.bl true)) []
theorem lawG_end {ns : List Int} (R : Rv → List OD → Prop) (RX : Exn → List OD → Prop) (h : ∀ n ∈ ns, n.natAbs < 2 ^ 1048577) (q : R (.d (.bl true)) []) : lawG [.d (.scr ns)] [] R RX := ⟨ns, rfl, rfl, h, q⟩
end DL

/-! text DLp -/
set_option Elab.async false
set_option linter.all false
set_option maxRecDepth 100000
set_option maxHeartbeats 4000000
namespace DL
open PySem PySem.Spec PyProof.Rows L2 RZ
/-! ### readings that come to one value -/
def Ev (t : TEd) (ρ : En) (x : D) (ρ1 : En) : Prop := ∀ Q : D → En → Prop, Q x ρ1 → t ρ Q
def EvT (t : TTd) (ρ : En) (b : Bool) (ρ1 : En) : Prop := ∀ Q : Bool → En → Prop, Q b ρ1 → t ρ Q
def EvA (t : TAd) (ρ : En) (x : List D) (ρ1 : En) : Prop := ∀ Q : List D → En → Prop, Q x ρ1 → t ρ Q
def EvO (t : TOd) (ρ : En) (x : OD) (ρ1 : En) : Prop := ∀ Q : OD → En → Prop, Q x ρ1 → t ρ Q
def RR (r : R2d) (x y z : D) : Prop := ∀ Q : D → Prop, Q z → r x y Q
def RU (r : R1d) (x z : D) : Prop := ∀ Q : D → Prop, Q z → r x Q
def RC (r : RLd) (xs : List D) (z : D) : Prop := ∀ Q : D → Prop, Q z → r xs Q
/-- a call by data alone that comes back with x -/
def Cl (g : Gd) (ds : List D) (x : D) : Prop := ∀ R X, R (.d x) [] → g (ds.map .d) [] R X
section
variable {ρ ρ1 ρ2 ρ3 : En} {x y z u v : D} {xs ys : List D} {ta tb tc te ti to : TEd} {t tu : TAd} {r r' : R2d} {b c : Bool} {tA tB : TTd} {i j : Nat} {o : OD} {tO : TOd}
theorem ev_var (h : ρ.sl[i]? = some (.d x)) : Ev (dVar i) ρ x ρ := fun Q q => by unfold dVar; rw [h]; exact q
theorem ev_own (h : ρ.sl[i]? = some (.own o)) (hs : o.still = true) : Ev (dVar i) ρ o.toD ⟨ρ.sl.set i (.d o.toD), ρ.pa⟩ := fun Q q => by unfold dVar; rw [h]; exact ⟨hs, q⟩
theorem ev_c : Ev (dC x) ρ x ρ := fun Q q => q
theorem ev_op (ha : Ev ta ρ x ρ1) (hb : Ev tb ρ1 y ρ2) (hr : RR r x y z) : Ev (dOp r ta tb) ρ z ρ2 := fun Q q => ha _ (hb _ (hr _ q))
theorem ev_un {r : R1d} (ha : Ev ta ρ x ρ1) (hr : RU r x z) : Ev (dUn r ta) ρ z ρ1 := fun Q q => ha _ (hr _ q)
theorem ev_chain (ha : Ev ta ρ x ρ1) (hb : Ev tb ρ1 y ρ2) (hr : RR r x y (.bl b)) (hc : Ev tc ρ2 z ρ2) (hr' : RR r' y z (.bl c)) : Ev (dChain r r' ta tb tc) ρ (.bl (b && c)) ρ2 := fun Q q => by
  refine ha _ (hb _ (hr _ ?_))
  cases b with
  | true => exact hc _ (hr' _ q)
  | false => exact q
theorem ev_and (ha : Ev ta ρ (.bl b) ρ1) (hb : b = true → Ev tb ρ1 (.bl c) ρ1) : Ev (dAndV ta tb) ρ (.bl (b && c)) ρ1 := fun Q q => by
  refine ha _ ?_
  cases b with
  | true => exact hb rfl _ q
  | false => exact q
theorem ev_or (ha : Ev ta ρ (.bl b) ρ1) (hb : b = false → Ev tb ρ1 (.bl c) ρ1) : Ev (dOrV ta tb) ρ (.bl (b || c)) ρ1 := fun Q q => by
  refine ha _ ?_
  cases b with
  | true => exact q
  | false => exact hb rfl _ q
theorem ev_not (ha : Ev ta ρ (.bl b) ρ1) : Ev (dNotV ta) ρ (.bl (!b)) ρ1 := fun Q q => ha _ q
theorem ev_if (hc : EvT tA ρ b ρ1) (ha : b = true → Ev ta ρ1 x ρ2) (hb : b = false → Ev tb ρ1 x ρ2) : Ev (dIf tA ta tb) ρ x ρ2 := fun Q q => by
  refine hc _ ?_
  cases b with
  | true => exact ha rfl _ q
  | false => exact hb rfl _ q
theorem ev_ifI {m n : Int} (hc : EvT tA ρ b ρ1) (ha : b = true → Ev ta ρ1 (.int m) ρ2) (hb : b = false → Ev tb ρ1 (.int n) ρ2) : Ev (dIf tA ta tb) ρ (.int (if b = true then m else n)) ρ2 := fun Q q => by
  refine hc _ ?_
  cases b with
  | true => exact ha rfl _ q
  | false => exact hb rfl _ q
theorem ev_ifV (hc : EvT tA ρ b ρ1) (ha : b = true → Ev ta ρ1 x ρ2) (hb : b = false → Ev tb ρ1 y ρ2) : Ev (dIf tA ta tb) ρ (if b = true then x else y) ρ2 := fun Q q => by
  refine hc _ ?_
  cases b with
  | true => exact ha rfl _ q
  | false => exact hb rfl _ q
theorem ev_ifS {m n : Str} (hc : EvT tA ρ b ρ1) (ha : b = true → Ev ta ρ1 (.str m) ρ2) (hb : b = false → Ev tb ρ1 (.str n) ρ2) : Ev (dIf tA ta tb) ρ (.str (if b = true then m else n)) ρ2 := fun Q q => by
  refine hc _ ?_
  cases b with
  | true => exact ha rfl _ q
  | false => exact hb rfl _ q
theorem eva_nil : EvA dNil ρ [] ρ := fun Q q => q
theorem eva_cons (ha : Ev ta ρ x ρ1) (hb : EvA t ρ1 xs ρ2) : EvA (dCons ta t) ρ (x :: xs) ρ2 := fun Q q => ha _ (hb _ q)
theorem ev_tup (h : EvA t ρ xs ρ1) (hl : xs.length ≤ sizeLine) : Ev (dTup t) ρ (.tup xs) ρ1 := fun Q q => h _ ⟨hl, q⟩
theorem ev_lst (h : EvA t ρ xs ρ1) (hl : xs.length ≤ sizeLine) : Ev (dLst t) ρ (.lst xs) ρ1 := fun Q q => h _ ⟨hl, q⟩
theorem evo_lst (h : EvA t ρ xs ρ1) (hl : xs.length ≤ sizeLine) : EvO (dLstO t) ρ (.lst xs) ρ1 := fun Q q => h _ ⟨hl, q⟩
theorem ev_cb {r : RLd} (h : EvA t ρ xs ρ1) (hr : RC r xs z) : Ev (dCB r t) ρ z ρ1 := fun Q q => h _ (hr _ q)
theorem ev_fld {K : PySem.W.Frag} {f : Str} {C : Addr} {fs : List (Str × D)} (h : Ev te ρ (.ins C fs) ρ1) (h1 : Cls K C) (h2 : NoAttr K C f) (h3 : fs.lookup f = some v) : Ev (dFld K f te) ρ v ρ1 := fun Q q => h _ ⟨h1, h2, v, h3, q⟩
theorem ev_get {kvs : List (Key × D)} {k : Key} (h1 : Ev to ρ (.dic kvs) ρ1) (h2 : Ev ti ρ1 y ρ2) (h3 : keyOf y = some k) (h4 : valD kvs k = some v) : Ev (dGet to ti) ρ v ρ2 := fun Q q => h1 _ (h2 _ ⟨k, v, h3, h4, q⟩)
theorem ev_getO {kvs : List (Key × D)} {k : Key} (h1 : ρ.sl[j]? = some (.own (.dic kvs))) (h2 : Ev ti ρ y ρ) (h3 : keyOf y = some k) (h4 : valD kvs k = some v) : Ev (dGetO j ti) ρ v ρ := fun Q q => by
  unfold dGetO
  rw [h1]
  refine h2 _ ?_
  rw [h1]
  exact ⟨k, v, h3, h4, q⟩
theorem ev_ixO {l : List D} {n : Int} (h1 : ρ.sl[j]? = some (.own (.lst l))) (h2 : Ev ti ρ (.int n) ρ) (h3 : atD l n = some v) : Ev (dIxO j ti) ρ v ρ := fun Q q => by
  unfold dIxO
  rw [h1]
  refine h2 _ ?_
  rw [h1]
  exact ⟨v, h3, q⟩
theorem ev_ixT {l : List D} {n : Int} (h1 : ρ.thing j = some (.lst l)) (h2 : Ev ti ρ (.int n) ρ) (h3 : atD l n = some v) : Ev (dIxT j ti) ρ v ρ := fun Q q => by
  unfold dIxT
  rw [h1]
  refine h2 _ ?_
  rw [h1]
  exact ⟨v, h3, q⟩
theorem ev_inD {kvs : List (Key × D)} {k : Key} {neg : Bool} (h1 : Ev ti ρ y ρ1) (h2 : Ev to ρ1 (.dic kvs) ρ2) (h3 : keyOf y = some k) : Ev (dInD neg ti to) ρ (.bl (if neg then !(valD kvs k).isSome else (valD kvs k).isSome)) ρ2 := fun Q q => h1 _ (h2 _ ⟨k, h3, q⟩)
theorem ev_call {g : Gd} {RX : RXd} (h : EvA t ρ xs ρ1) (hc : Cl g xs x) : Ev (dCall g RX t) ρ x ρ1 := fun Q q => h _ (hc _ _ q)
theorem ev_still (h : EvO tO ρ o ρ1) (hs : o.still = true) : Ev (dStill tO) ρ o.toD ρ1 := fun Q q => h _ ⟨hs, q⟩
theorem evo_copyD {kvs : List (Key × D)} (h : Ev te ρ (.dic kvs) ρ1) : EvO (dCopyD te) ρ (.dic kvs) ρ1 := fun Q q => h _ q
theorem evo_copyL {l : List D} (h : Ev te ρ (.lst l) ρ1) : EvO (dCopyL te) ρ (.lst l) ρ1 := fun Q q => h _ q
theorem evo_new : EvO dNewO ρ (.dic []) ρ := fun Q q => q
theorem evo_var (h : ρ.sl[i]? = some (.own o)) (hs : o.still = true) : EvO (dVarO i) ρ o ⟨ρ.sl.set i .no, ρ.pa⟩ := fun Q q => by unfold dVarO; rw [h]; exact ⟨hs, q⟩
theorem evT_val (h : Ev ta ρ (.bl b) ρ1) : EvT (dT ta) ρ b ρ1 := fun Q q => h _ q
theorem evT_and (ha : EvT tA ρ b ρ1) (hb : b = true → EvT tB ρ1 c ρ1) : EvT (dAnd tA tB) ρ (b && c) ρ1 := fun Q q => by
  refine ha _ ?_
  cases b with
  | true => exact hb rfl _ q
  | false => exact q
theorem evT_or (ha : EvT tA ρ b ρ1) (hb : b = false → EvT tB ρ1 c ρ1) : EvT (dOr tA tB) ρ (b || c) ρ1 := fun Q q => by
  refine ha _ ?_
  cases b with
  | true => exact q
  | false => exact hb rfl _ q
theorem evT_not (ha : EvT tA ρ b ρ1) : EvT (dNot tA) ρ (!b) ρ1 := fun Q q => ha _ q
theorem evT_yes : EvT dYes ρ true ρ := fun Q q => q
theorem evT_eq (h : EvT tA ρ b ρ1) (e : b = c) : EvT tA ρ c ρ1 := e ▸ h
theorem ev_eq (h : Ev ta ρ x ρ1) (e : x = y) : Ev ta ρ y ρ1 := e ▸ h
theorem ev_lc {tt : TTd} (p : D → Bool) (f : D → D) {ti : TId} (hi : ∀ Qi : List D → En → Prop, Qi xs ρ → ti ρ Qi) (h : i < ρ.sl.length) (hc : ∀ o, ρ.sl[i]? ≠ some (.own o)) (hl : xs.length ≤ sizeLine)
    (ht : ∀ d ∈ xs, EvT tt (ρ.in1 i d) (p d) (ρ.in1 i d)) (he : ∀ d ∈ xs, p d = true → Ev te (ρ.in1 i d) (f d) (ρ.in1 i d)) : Ev (dLc ti (gN i) tt te [i]) ρ (.lst ((xs.filter p).map f)) ρ := fun Q q => lc_pure xs p f hi h hc hl (fun d hd => ht d hd) (fun d hd hp => he d hd hp) q
theorem ev_lcM (f : D → D) {ti : TId} (hi : ∀ Qi : List D → En → Prop, Qi xs ρ → ti ρ Qi) (h : i < ρ.sl.length) (hc : ∀ o, ρ.sl[i]? ≠ some (.own o)) (hl : xs.length ≤ sizeLine)
    (he : ∀ d ∈ xs, Ev te (ρ.in1 i d) (f d) (ρ.in1 i d)) : Ev (dLc ti (gN i) dYes te [i]) ρ (.lst (xs.map f)) ρ := fun Q q => lc_map xs f hi h hc hl (fun d hd => he d hd) q
/-! statements -/
variable {Dd : EndsD} {s s' : TSd}
theorem st_seq (h : s { Dd with nx := s' Dd } ρ) : dSeq s s' Dd ρ := h
theorem st_next (h : Dd.nx ρ) : dNext Dd ρ := h
theorem st_ret (h : Ev te ρ x ρ1) (q : Dd.rt (.d x) ρ1) : dRet te Dd ρ := h _ q
theorem st_retO (h : EvO tO ρ o ρ1) (q : Dd.rt (.own o) ρ1) : dRetO tO Dd ρ := h _ q
theorem st_set (h : Ev te ρ x ρ1) (q : Dd.nx ⟨ρ1.sl.set i (.d x), ρ1.pa⟩) : dSet i te Dd ρ := h _ q
theorem st_setO (h : EvO tO ρ o ρ1) (q : Dd.nx ⟨ρ1.sl.set i (.own o), ρ1.pa⟩) : dSetO i tO Dd ρ := h _ q
theorem st_drop (h : Ev te ρ x ρ1) (q : Dd.nx ρ1) : dDrop te Dd ρ := h _ q
theorem st_if (h : EvT tA ρ b ρ1) (h1 : b = true → s Dd ρ1) (h2 : b = false → s' Dd ρ1) : dIfS tA s s' Dd ρ := by
  refine h _ ?_
  cases b with
  | true => exact h1 rfl
  | false => exact h2 rfl
theorem st_par {x y : D} (ha : Ev ta ρ x ρ1) (hb : Ev tb ρ1 y ρ2) (q : Dd.nx ⟨(ρ2.sl.set i (.d x)).set j (.d y), ρ2.pa⟩) : dPar i j (rD ta) (rD tb) Dd ρ := ha _ (hb _ q)
theorem st_parO (ha : Ev ta ρ x ρ1) (hb : EvO tO ρ1 o ρ2) (q : Dd.nx ⟨(ρ2.sl.set i (.d x)).set j (.own o), ρ2.pa⟩) : dPar i j (rD ta) (rO tO) Dd ρ := ha _ (hb _ q)
theorem st_aug {r : R2d} (h0 : ρ.sl[j]? = some (.d x)) (h : Ev te ρ y ρ1) (hr : RR r x y z) (q : Dd.nx ⟨ρ1.sl.set j (.d z), ρ1.pa⟩) : dAug j r te Dd ρ := by
  unfold dAug
  rw [h0]
  exact h _ (hr _ q)
theorem st_app {l : List D} (h0 : ρ.sl[j]? = some (.own (.lst l))) (h : Ev te ρ x ρ1) (h1 : ρ1.sl[j]? = some (.own (.lst l))) (hl : l.length < sizeLine) (q : Dd.nx ⟨ρ1.sl.set j (.own (.lst (l ++ [x]))), ρ1.pa⟩) : dApp j te Dd ρ := by
  unfold dApp
  rw [h0]
  refine h _ ?_
  rw [h1]
  exact ⟨hl, q⟩
theorem st_put {kvs : List (Key × D)} {k : Key} (h : Ev te ρ x ρ1) (h0 : ρ1.sl[j]? = some (.own (.dic kvs))) (hi : Ev ti ρ1 y ρ1) (hk : keyOf y = some k) (hl : kvs.length < sizeLine) (q : Dd.nx ⟨ρ1.sl.set j (.own (.dic (putD kvs k x))), ρ1.pa⟩) : dAsg te (gPut j ti) Dd ρ := by
  refine h _ ?_
  unfold gPut
  rw [h0]
  refine hi _ ?_
  rw [h0]
  exact ⟨k, hk, hl, q⟩
theorem st_setL {l : List D} {n : Int} {m : Nat} (h : Ev te ρ x ρ1) (h0 : ρ1.sl[j]? = some (.own (.lst l))) (hi : Ev ti ρ1 (.int n) ρ1) (hm : ixN l.length n = some m) (q : Dd.nx ⟨ρ1.sl.set j (.own (.lst (l.set m x))), ρ1.pa⟩) : dAsg te (gSetL j ti) Dd ρ := by
  refine h _ ?_
  unfold gSetL
  rw [h0]
  refine hi _ ?_
  rw [h0]
  exact ⟨m, hm, q⟩
theorem st_stT {l : List D} {n : Int} {m : Nat} (h : Ev te ρ x ρ1) (h0 : ρ1.thing j = some (.lst l)) (hi : Ev ti ρ1 (.int n) ρ1) (hm : ixN l.length n = some m) (q : Dd.nx (ρ1.chg j (.lst (l.set m x)))) : dStT j te ti Dd ρ := by
  refine h _ ?_
  rw [h0]
  refine hi _ ?_
  rw [h0]
  exact ⟨m, hm, q⟩
theorem st_if0 (h : EvT tA ρ b ρ) (h1 : b = true → s Dd ρ) (h2 : b = false → s' Dd ρ) : dIfS tA s s' Dd ρ := st_if h h1 h2
theorem st_ret0 (h : Ev te ρ x ρ) (q : Dd.rt (.d x) ρ) : dRet te Dd ρ := h _ q
theorem st_set0 (h : Ev te ρ x ρ) (q : Dd.nx ⟨ρ.sl.set i (.d x), ρ.pa⟩) : dSet i te Dd ρ := h _ q
theorem st_setO0 (h : EvO tO ρ o ρ) (q : Dd.nx ⟨ρ.sl.set i (.own o), ρ.pa⟩) : dSetO i tO Dd ρ := h _ q
theorem st_drop0 (h : Ev te ρ x ρ) (q : Dd.nx ρ) : dDrop te Dd ρ := h _ q
theorem ev_if0 (hc : EvT tA ρ b ρ) (ha : b = true → Ev ta ρ x ρ) (hb : b = false → Ev tb ρ x ρ) : Ev (dIf tA ta tb) ρ x ρ := ev_if hc ha hb
theorem ev_call0 {g : Gd} {RX : RXd} (h : EvA t ρ xs ρ) (hc : Cl g xs x) : Ev (dCall g RX t) ρ x ρ := ev_call h hc
theorem evT_eq0 (h : EvT tA ρ b ρ) (e : b = c) : EvT tA ρ c ρ := e ▸ h
theorem ev_eq0 (h : Ev ta ρ x ρ) (e : x = y) : Ev ta ρ y ρ := e ▸ h
theorem ev_ifI0 {m n : Int} (hc : EvT tA ρ b ρ) (ha : b = true → Ev ta ρ (.int m) ρ) (hb : b = false → Ev tb ρ (.int n) ρ) : Ev (dIf tA ta tb) ρ (.int (if b = true then m else n)) ρ := ev_ifI hc ha hb
theorem st_while {c : TTd} {tb : TSd} (Pv : Nat → En → Prop) (m0 : Nat) (h0 : Pv m0 ρ) (h : ∀ m ρ, Pv m ρ → ∃ b, EvT c ρ b ρ ∧ (b = true → tb { Dd with nx := fun ρ' => ∃ m', m' < m ∧ Pv m' ρ', ct := fun ρ' => ∃ m', m' < m ∧ Pv m' ρ', bk := Dd.nx } ρ) ∧ (b = false → Dd.nx ρ)) : dWhile c tb Dd ρ := by
  refine ⟨Pv, ⟨m0, h0⟩, fun m ρ p => ?_⟩
  obtain ⟨b, e, h1, h2⟩ := h m ρ p
  refine e _ ?_
  cases b with
  | true => exact h1 rfl
  | false => exact h2 rfl
theorem st_for {ti : TId} {tb : TSd} (xs : List D) (hi : ∀ Qi : List D → En → Prop, Qi xs ρ → ti ρ Qi) (Pv : Nat → En → Prop) (h0 : Pv 0 ρ) (h : ∀ i d ρ, xs[i]? = some d → Pv i ρ → tb { Dd with nx := Pv (i + 1), ct := Pv (i + 1), bk := Dd.nx } ⟨ρ.sl.set j (.d d), ρ.pa⟩)
    (he : ∀ ρ, Pv xs.length ρ → Dd.nx ρ) : dFor ti (gN j) tb Dd ρ := hi _ ⟨Pv, h0, h, he⟩
theorem it_r1 {n : Int} (h : Ev ta ρ (.int n) ρ) (hn : -(2 ^ 62) ≤ n ∧ n < 2 ^ 62) : ∀ Qi : List D → En → Prop, Qi (rangeD 0 n.toNat) ρ → iR1 ta ρ Qi := fun Qi q => h _ ⟨hn, q⟩
theorem it_r2 {m n : Int} (ha : Ev ta ρ (.int m) ρ) (hb : Ev tb ρ (.int n) ρ) (hn : -(2 ^ 62) ≤ m ∧ m < 2 ^ 62 ∧ -(2 ^ 62) ≤ n ∧ n < 2 ^ 62) : ∀ Qi : List D → En → Prop, Qi (rangeD m (n - m).toNat) ρ → iR2 ta tb ρ Qi := fun Qi q => ha _ (hb _ ⟨hn, q⟩)
theorem it_tup (h : Ev ta ρ (.tup xs) ρ) : ∀ Qi : List D → En → Prop, Qi xs ρ → iTup ta ρ Qi := fun Qi q => h _ q
theorem it_lst (h : Ev ta ρ (.lst xs) ρ) : ∀ Qi : List D → En → Prop, Qi xs ρ → iLst ta ρ Qi := fun Qi q => h _ q
theorem st_two {x y : D} (h : Ev te ρ (.tup [x, y]) ρ1) (q : Dd.nx ⟨(ρ1.sl.set i (.d x)).set j (.d y), ρ1.pa⟩) : dAsg te (gT 2 (gsCons (gN i) (gsCons (gN j) gsNil))) Dd ρ := h _ ⟨rfl, q⟩
end
/-! ### the operators -/
theorem rr_addI {i j : Int} : RR oAdd (.int i) (.int j) (.int (i + j)) := fun Q q => q
theorem rr_addL {a b : List D} (h : a.length + b.length ≤ sizeLine) : RR oAdd (.lst a) (.lst b) (.lst (a ++ b)) := fun Q q => ⟨h, q⟩
theorem rr_addT {a b : List D} (h : a.length + b.length ≤ sizeLine) : RR oAdd (.tup a) (.tup b) (.tup (a ++ b)) := fun Q q => ⟨h, q⟩
theorem rr_addS {a b : Str} (h : a.length + b.length ≤ sizeLine) : RR oAdd (.str a) (.str b) (.str (a ++ b)) := fun Q q => ⟨h, q⟩
theorem rr_sub {i j : Int} : RR oSub (.int i) (.int j) (.int (i - j)) := fun Q q => q
theorem rr_mul {i j : Int} (h : MulOk i j) : RR oMul (.int i) (.int j) (.int (i * j)) := fun Q q => ⟨h, q⟩
theorem rr_rep {a : List D} {k : Int} (h1 : a.length ≤ 1000) (h2 : -1000 ≤ k) (h3 : k ≤ 1000) : RR oMul (.lst a) (.int k) (.lst (List.replicate k.toNat a).flatten) := fun Q q => ⟨h1, h2, h3, q⟩
theorem rr_div {i j : Int} (h : CDivW i j) : RR oDiv (.int i) (.int j) (.int (i / j)) := fun Q q => ⟨h, q⟩
theorem rr_mod {i j : Int} (h : 0 < j) : RR oMod (.int i) (.int j) (.int (i % j)) := fun Q q => ⟨h, q⟩
theorem rr_pow {i j : Int} (h : CPow i j) : RR oPow (.int i) (.int j) (.int (i ^ j.toNat)) := fun Q q => ⟨h, q⟩
theorem rr_lt {i j : Int} : RR oLt (.int i) (.int j) (.bl (decide (i < j))) := fun Q q => q
theorem rr_le {i j : Int} : RR oLe (.int i) (.int j) (.bl (decide (i ≤ j))) := fun Q q => q
theorem rr_gt {i j : Int} : RR oGt (.int i) (.int j) (.bl (decide (j < i))) := fun Q q => q
theorem rr_ge {i j : Int} : RR oGe (.int i) (.int j) (.bl (decide (j ≤ i))) := fun Q q => q
theorem rr_eqI {i j : Int} : RR oEq (.int i) (.int j) (.bl (decide (i = j))) := fun Q q => ⟨rfl, q⟩
theorem rr_eqS {i j : Str} : RR oEq (.str i) (.str j) (.bl (decide (i = j))) := fun Q q => ⟨rfl, q⟩
theorem rr_neI {i j : Int} : RR oNe (.int i) (.int j) (.bl (!decide (i = j))) := fun Q q => ⟨rfl, q⟩
theorem rr_neS {i j : Str} : RR oNe (.str i) (.str j) (.bl (!decide (i = j))) := fun Q q => ⟨rfl, q⟩
theorem rr_neB {i j : Bool} : RR oNe (.bl i) (.bl j) (.bl (!(i == j))) := fun Q q => ⟨rfl, q⟩
theorem rr_eqB {i j : Bool} : RR oEq (.bl i) (.bl j) (.bl (i == j)) := fun Q q => ⟨rfl, q⟩
theorem rr_eq {x y : D} (h : eqOk x y = true) : RR oEq x y (.bl (eqD x y)) := fun Q q => ⟨h, q⟩
theorem rr_ne {x y : D} (h : eqOk x y = true) : RR oNe x y (.bl (!eqD x y)) := fun Q q => ⟨h, q⟩
theorem rr_is {x : D} : RR oIs x .non (.bl (isNon x)) := fun Q q => q
theorem rr_isnot {x : D} : RR oIsNot x .non (.bl (!isNon x)) := fun Q q => q
theorem rr_inL {x : D} {l : List D} (h : okIn x l = true) : RR oIn x (.lst l) (.bl (inD x l)) := fun Q q => ⟨h, q⟩
theorem rr_inT {x : D} {l : List D} (h : flatD x = true ∧ l.all flatD = true) : RR oIn x (.tup l) (.bl (inD x l)) := fun Q q => ⟨h, q⟩
theorem rr_notinL {x : D} {l : List D} (h : okIn x l = true) : RR oNotIn x (.lst l) (.bl (!inD x l)) := fun Q q => ⟨h, q⟩
theorem rr_notinT {x : D} {l : List D} (h : flatD x = true ∧ l.all flatD = true) : RR oNotIn x (.tup l) (.bl (!inD x l)) := fun Q q => ⟨h, q⟩
theorem rr_ixL {l : List D} {n : Int} {v : D} (h : atD l n = some v) : RR oIx (.lst l) (.int n) v := fun Q q => ⟨v, h, q⟩
theorem rr_ixT {l : List D} {n : Int} {v : D} (h : atD l n = some v) : RR oIx (.tup l) (.int n) v := fun Q q => ⟨v, h, q⟩
theorem ru_neg {i : Int} : RU oNeg (.int i) (.int (-i)) := fun Q q => q
theorem rc_lenL {l : List D} : RC rLen [.lst l] (.int l.length) := fun Q q => q
theorem rc_lenT {l : List D} : RC rLen [.tup l] (.int l.length) := fun Q q => q
theorem rc_lenD {l : List (Key × D)} : RC rLen [.dic l] (.int l.length) := fun Q q => q
theorem rc_int {i : Int} : RC rInt [.int i] (.int i) := fun Q q => q
theorem rc_intB {b : Bool} : RC rInt [.bl b] (.int (if b then 1 else 0)) := fun Q q => q
theorem rc_abs {i : Int} : RC rAbs [.int i] (.int (if i < 0 then -i else i)) := fun Q q => q
theorem rc_min {i j : Int} : RC rMin2 [.int i, .int j] (.int (min i j)) := fun Q q => q
theorem rc_max {i j : Int} : RC rMax2 [.int i, .int j] (.int (max i j)) := fun Q q => q
theorem rc_minL {ns : List Int} (h : ns ≠ []) : RC rMinL [.lst (ns.map D.int)] (.int (minI ns)) := fun Q q => ⟨ns, rfl, h, q⟩
theorem rc_maxL {ns : List Int} (h : ns ≠ []) : RC rMaxL [.lst (ns.map D.int)] (.int (maxI ns)) := fun Q q => ⟨ns, rfl, h, q⟩
theorem rc_all {bs : List Bool} : RC rAllD [.lst (bs.map D.bl)] (.bl (bs.all id)) := fun Q q => ⟨bs, rfl, q⟩
theorem rc_any {bs : List Bool} : RC rAnyD [.lst (bs.map D.bl)] (.bl (bs.any id)) := fun Q q => ⟨bs, rfl, q⟩
theorem rc_isi {K : PySem.W.Frag} {x c : D} {t u : Value} {b : Bool} (h1 : ClsD c u) (h2 : TyD K x t) (h3 : PySem.W.kitOne K t u = some b) : RC (rIsiD K) [x, c] (.bl b) := fun Q q => ⟨x, c, t, u, b, rfl, h1, h2, h3, q⟩
theorem rc_tuple {l : List D} : RC rTuple [.lst l] (.tup l) := fun Q q => q
theorem rc_list {l : List D} : RC rList [.lst l] (.lst l) := fun Q q => q
theorem rc_listT {l : List D} : RC rList [.tup l] (.lst l) := fun Q q => q
end DL

/-! text DLq -/
set_option Elab.async false
set_option linter.all false
set_option maxRecDepth 100000
set_option maxHeartbeats 4000000
/-! Errors of own classes whose __init__ says super().__init__(text). -/
namespace PySem
namespace DQ
open PySem.W PySem.Calls PyProof.Rows PySem.HandSPX
/-! the text of such an __init__ -/
def exA (p : Pos) : Arguments := { posonlyargs := [], args := [{ arg := "self", annotation := none, pos := p }], vararg := none, kwonlyargs := [], kw_defaults := [], kwarg := none, defaults := [] }
def exB (m : Str) (j : Nat) (p0 p1 p2 p3 p4 p5 : Pos) : List Stmt := [.Expr (.Call (.Attribute (.Call (.Name "super" p0) [] [] p1) "__init__" p2) [.Constant (.str m) j p3] [] p4) p5]
def exS : Scope := { kind := .function, names := [(PySem.Str.ofString "self", .local), (PySem.Str.ofString "__class__", .free), (PySem.Str.ofString "super", .globalImplicit)], isGenerator := false, isCoroutine := false, more := [] }
/-- the call in it, as the model reads it -/
def ErE (q m : Str) (j : Nat) (p0 p1 p2 p3 p4 : Pos) (fI cda cc : Addr) : Prop := ∀ L : Addr, ∃ pl : Sem Bool, eval (.Call (.Attribute (.Call (.Name "super" p0) [] [] p1) "__init__" p2) [.Constant (.str m) j p3] [] p4) (ksEnv q exS L fI (.ref cda) cc) = (do
      let ov ← attributeBase (.Call (.Name "super" p0) [] [] p1) "__init__" (ksEnv q exS L fI (.ref cda) cc) (eval (.Call (.Name "super" p0) [] [] p1) (ksEnv q exS L fI (.ref cda) cc))
      standAt p2.atName
      let (f, first) ← holding [ov] (getMethod ov "__init__" pl)
      callWith p4 f first (backTo p4 (starEach [.Constant (.str m) j p3] (ksEnv q exS L fI (.ref cda) cc))) [])
/-- the class at C, its __init__ at fI with the cell cc of the class -/
structure ErT (prog : Program) (K : Frag) (C : Addr) : Prop where
  cls : ∃ nm qn N bs bm sn sub ab col dd k0 k1 k2 k3 k5, K.lookup C = some (excClassObj nm qn C N bs bm true sn sub ab col dd k0 k1 k2 k3 k5 "ValueError.__new__") ∧ refsVE bm = true
  fn : ∃ fI cc cda q m j p p0 p1 p2 p3 p4 p5 oc od osl kV doc pm an ct, findIn K (.ref C) "__init__" = some (some (.ref fI)) ∧ typeIn K (.ref fI) = some (.type "function") ∧
    K.lookup fI = some ⟨oc, od, .func (ksFn "__init__" q (exA p) (exB m j p0 p1 p2 p3 p4 p5) exS .none kV doc pm an (.ref cda) ct cc), osl⟩ ∧ codeIn K (.ref cda) q = true ∧
    (∃ ccl cdd vs ccs file tf, K.lookup cda = some ⟨ccl, cdd, .fields vs, ccs⟩ ∧ vs[2]? = some (.str file tf) ∧ ((prog.main.file : Str) == file) = true) ∧ (∃ cl cld csl, K.lookup cc = some ⟨cl, cld, .cell (some (.ref C)), csl⟩) ∧ ErE q m j p0 p1 p2 p3 p4 fI cda cc
  kC : keepIn K (.ref C) = true
  sup : ks_superIn K C C "__init__" = some (some (.builtin "ValueError.__init__"))
  subV : subIn K (.ref C) (.type "ValueError") = some true
  subB : subIn K (.ref C) (.type "BaseException") = some true
  tyC : typeIn K (.ref C) = some (.type "type")
  mro : mroIn K C (.ref C) = some true
  any : nsIn K cStatics "thirdparty.any" = some none
  top : (prog.main.scope.names.lookup ("super" : Str)).isSome = false
section
variable {prog : Program} {w : World} {A : Around} {R : Result → Shared → Prop} {s : Shared} {K : Frag} {mg mb : Str → Option Value} {C : Addr}
theorem er_init (T : ErT prog K C) {fI : Addr} (iC : findIn K (.ref C) "__init__" = some (some (.ref fI))) {x t0 : Addr} (X : K.In s.heap) (hlim : s.heap.NoLimit) (hx : s.heap.get? x = some (excO C t0)) (G : s.heap.Ns mainGlobals mg) (hsup : mg "super" = none) (Bn : s.heap.Ns builtinsNs mb)
    (hbs : mb "super" = some (.type "super")) (hroom : A.depth < recursionLimit)
    (hq : ∀ h' tk t1, (∀ b o, b ≠ x → s.heap.get? b = some o → h'.get? b = some o) → h'.get? x = some (excO C t1) → R (.ok (.ret .none)) { s with heap := h', toks := tk }) : codeAny (model prog w) A (.call (.ref fI) ⟨[.ref x], []⟩) R s := by
  obtain ⟨fI', cc, cda, q, m, j, p, p0, p1, p2, p3, p4, p5, oc, od, osl, kV, doc, pm, an, ct, iC', _, ho, hcode0, ⟨ccl, cdd, vs, ccs, file, tf, hcode, hvs, hfile⟩, ⟨cl, cld, csl, hcell⟩, hev⟩ := T.fn
  have ef : fI' = fI := by rw [iC] at iC'; cases iC'; rfl
  subst ef
  obtain ⟨nm, qn, N, bs, bm, sn, sub, ab, col, dd, k0, k1, k2, k3, k5, hC, hbm⟩ := T.cls
  have hcl : clsIn K C = some { name := nm, bases := bs, mro := .ref C :: bm, ns := N, qualname := qn, hasDict := true, slotNames := sn, subclasses := sub, abstract := ab, collection := col, hasDel := false } := by unfold clsIn; rw [hC] <;> rfl
  refine ks_codeAny_call_defAt (fd := ksFn "__init__" q (exA p) (exB m j p0 p1 p2 p3 p4 p5) exS .none kV doc pm an (.ref cda) ct cc) (body := exB m j p0 p1 p2 p3 p4 p5) (binds := [("self", .ref x)]) hroom (X _ _ ho) rfl hlim (codeRec_of X hcode0) rfl (BindsTo.of_eq (by first | rfl | with_unfolding_all rfl)) (show ∀ x ∈ exS.names, x.2 ≠ NameKind.cell by decide)
    (fun y hy => by rw [List.mem_singleton] at hy; subst hy; rfl) (fun h1 hns k1' => ?_)
  have X1 : K.In h1 := X.keeps k1'
  have hx1 := k1' _ _ hx
  generalize hcd0 : (Code.func _ _) = cdd0
  show _root_.PySem.wpAt (model prog w) (A.deeper (ksEnv q exS s.heap.objs.size fI' (.ref cda) cc)) cdd0 (execs (exB m j p0 p1 p2 p3 p4 p5) (ksEnv q exS s.heap.objs.size fI' (.ref cda) cc)) _ _ _
  obtain ⟨pl, hev⟩ := hev s.heap.objs.size
  refine ks_wpAt_execs_cons (ks_wpAt_Expr_any (ks_wpAt_MethodCall (pl := pl) ?_ hev))
  subst hcd0
  refine ks_wpAt_super_base (env := ksEnv q exS s.heap.objs.size fI' (.ref cda) cc) rfl rfl (by decide) rfl (X1 _ _ ho) rfl rfl rfl (X1 _ _ hcode) rfl hvs hfile T.top ?_
  refine ks_loadName_global rfl rfl (loadGlobal_builtin (env := ksEnv q exS s.heap.objs.size fI' (.ref cda) cc) (G.keeps k1') hsup (Bn.keeps k1') hbs ⟨rfl, ?_⟩)
  refine wpAny_loadName_free rfl rfl rfl ⟨_, X1 _ _ hcell, rfl⟩ ?_
  refine wpAny_loadName_local rfl rfl hns (v := .ref x) (by simp [List.lookup]) ?_
  refine ks_wpAny_isType_cls (X1 _ _ hC) rfl ⟨rfl, ?_⟩
  refine ks_wpAny_call_super (X1 _ _ hC) rfl hx1 rfl (fun c e => by cases e) (looks_mroIn X1 T.mro) (fun h2 hso k2' => ?_)
  have X2 : K.In h2 := X1.keeps k2'
  have hx2 := k2' _ _ hx1
  have I2 : InstAt h2 x (excO C t0) C none := ⟨hx2, rfl, rfl, trivial⟩
  have hsup2 : alongIn K "__init__" (((Value.ref C :: bm).dropWhile (· != .ref C)).drop 1) = some (some (.builtin "ValueError.__init__")) := by
    have e := T.sup
    unfold ks_superIn at e
    rw [hcl] at e
    exact e
  refine kxs_getMethod kxs_ValueError hso (looks_opaque X2 T.any) (l₀ := .ref C :: bm) (fun A Q E s k q => wpAny_bind ((looks_clsIn X2 hcl) A _ E s k (wpAny_pure q))) rfl X2 hsup2 (I2.type.andThen (looks_subIn X2 T.subV)) (ks_ne X2 I2 hcl) (by decide) ?_
  refine kxs_callWith (i := "ValueError.__init__") (x := x) rfl (evalArgs_plain (spliced_cons (Constant_str (k := j) (pos := p3) (spliced_nil ⟨Heap.get?_push_at rfl rfl, ?_⟩))))
  generalize hu0 : h2.objs.size = u
  have hu : (h2.push (kxs_mw "ValueError.__init__" x)).get? u = some (kxs_mw "ValueError.__init__" x) := by rw [← hu0]; exact Heap.get?_push_at rfl rfl
  have k3 : ∀ b o, h2.get? b = some o → (h2.push (kxs_mw "ValueError.__init__" x)).get? b = some o := fun b o e => Heap.get?_push_of_some _ e
  have hx3 := k3 _ _ hx2
  have hC3 := X2.keeps k3 _ _ hC
  refine wpAny_call (codeAny_of_tree (show wpAny _ _ (callAny (.ref u) ⟨_, []⟩) _ _ _ from ?_))
  simp only [callAny]
  refine wpAny_bind (wpAny_load hu (show wpAny _ _ _ _ _ _ from ?_))
  simp only [kxs_mw, show (Value.type "method-wrapper" == Value.type "method" || Value.type "method-wrapper" == Value.type "builtin_function_or_method" || Value.type "method-wrapper" == Value.type "method-wrapper") = true by decide, if_true]
  refine KFB.if_so (by decide) (wpAny_bind (check_bound_init F.excBase_ValueError.toExcCallFacts hC3 hx3 rfl (wpAny_bind (wpAny_pure (wpAny_pure ⟨plainId_quiet F.excBase_ValueError.init.plain _, codeAny_builtin F.excBase_ValueError.initEntry ?_⟩)))))
  refine exc_init_tree (cls := .ref C) (t0 := t0) (dv := none) (c2 := .none) (c3 := .none) (b4 := .bool false) hx3 (by rw [sizeLine_eq]; show 1 ≤ 16777216; decide) (fun h' k4 e4 _ => ?_)
  refine wpAt_of_wpAny (wpAny_execs_nil (hq h' _ _ (fun b o hb e => k4 b o hb (k3 _ _ (k2' _ _ (k1' _ _ e)))) e4))
/-- C() -/
theorem er_made (T : ErT prog K C) (X : K.In s.heap) (hlim : s.heap.NoLimit) (G : s.heap.Ns mainGlobals mg) (hsup : mg "super" = none) (Bn : s.heap.Ns builtinsNs mb) (hbs : mb "super" = some (.type "super")) (hroom : A.depth + 1 < recursionLimit)
    (hq : ∀ h' tk e t1, (∀ b o, s.heap.get? b = some o → h'.get? b = some o) → s.heap.objs.size ≤ e → h'.get? e = some (excO C t1) → R (.ok (.ret (.ref e))) { s with heap := h', toks := tk }) : codeAny (model prog w) A (.call (.ref C) ⟨[], []⟩) R s := by
  obtain ⟨nm, qn, N, bs, bm, sn, sub, ab, col, dd, k0, k1, k2, k3, k5, hC, hbm⟩ := T.cls
  obtain ⟨fI, _, _, _, _, _, _, _, _, _, _, _, _, _, _, _, _, _, _, _, _, iC, tC, _⟩ := T.fn
  obtain ⟨hp, g, dr, tk, os⟩ := s
  have old : ∀ b o, hp.get? b = some o → ((hp.push (kdv_tup [])).push (excO C hp.objs.size)).get? b = some o := fun b o e => Heap.get?_push_of_some _ (Heap.get?_push_of_some _ e)
  have new : ((hp.push (kdv_tup [])).push (excO C hp.objs.size)).get? (hp.objs.size + 1) = some (excO C hp.objs.size) := by heap_get
  refine call_own F.excBase_ValueError (fun Y => refsVE_contains Y bm hbm) (X _ _ hC) (looks_findIn X iC) (fun self => bind_fn X self tC) (Nat.zero_le _) ?_
  refine er_init (s := ⟨(hp.push (kdv_tup [])).push (excO C hp.objs.size), g, dr, tk, os⟩) T iC (X.keeps old) (hlim.keeps old) new (G.keeps old) hsup (Bn.keeps old) hbs (by show A.depth + 1 < recursionLimit; exact hroom) (fun h' tk' t1 kk he => ?_)
  exact ⟨rfl, hq h' tk' (hp.objs.size + 1) t1 (fun b o e => kk b o (Nat.ne_of_lt (Nat.lt_succ_of_lt (Heap.lt_size e))) (old b o e)) (Nat.le_succ _) he⟩
end
end DQ
end PySem

/-! text DLr -/
set_option Elab.async false
set_option linter.all false
set_option maxRecDepth 100000
set_option maxHeartbeats 4000000
namespace DL
open PySem PySem.Spec PyProof.Rows L2 RZ
section
variable {X : Cx} {G : Gx} {C : Addr} {x : Str} {p pos pos' : Pos} {RX : RXd} {k : Nat}
/-- C(), an error of an own class -/
theorem pmk_er (T : PySem.DQ.ErT X.prog X.K C) (hr : Room k X.A) (hm : X.mg x = some (.ref C)) (hsup : X.mg "super" = none) (hg : Gl X x := by rfl) (hdb : (x == ("__debug__" : Str)) = false := by decide) : PMk X (.Call (.Name x p) [] [] pos) (fun σ H Q => Q (.ref C) none H) := by
  intro pins s σ H Q I h
  refine wpAny_Call_Name_kw (ld_glob I hg hm (PySem.W.callWith_K0 I.kIn T.kC (wpAny_call ?_)) hdb)
  obtain ⟨mb, b1, b2⟩ := I.mod.blt
  have hroom : X.A.depth + 1 < recursionLimit := by have := hr.dp; omega
  refine PySem.DQ.er_made T I.kIn I.nolimit (I.mod.glob.keeps I.bk) hsup (b1.keeps I.bk) ((b2 _ (by decide)).trans PyProof.Rows.Boot.«super») hroom (fun h' tk' e t1 kk hle he => ?_)
  obtain ⟨hp, g, dr, tk, os⟩ := s
  show MkP X pins σ Q (.ref e) ⟨h', g, dr, tk', os⟩
  obtain ⟨G', g1, g2⟩ := restrict h' fun b => decide (b ≠ e)
  have gk : ∀ b, b ≠ e → G'.get? b = h'.get? b := fun b hb => g1 b (decide_eq_true hb)
  have ge : G'.get? e = none := g2 e (by simp)
  have old : ∀ b o, hp.get? b = some o → G'.get? b = some o := fun b o q => (gk b (Nat.ne_of_lt (Nat.lt_of_lt_of_le (Heap.lt_size q) hle))).trans (kk b o q)
  have J : Inv X pins σ H ⟨G', g, dr, tk', os⟩ := I.kept (t' := tk') old
  refine ⟨e, _, _, ⟨G', g, dr, tk', os⟩, H, .ref C, none, rfl, J, fun b o q => ?_, ge, he, ⟨rfl, rfl⟩, rfl, rfl, I.hok.fresh hle, rfl, I.bare, raises_own T.subB T.tyC, h⟩
  by_cases hb : b = e
  · have q' : G'.get? b = some o := q
    rw [hb, ge] at q'; cases q'
  · exact (gk b hb).symm.trans q
/-- raise C() -/
theorem ds_raise0 {kx : Kx} {nm : String} (hon : kx.ex = true) (T : PySem.DQ.ErT X.prog X.K (kx.cl nm)) (hr : Room k X.A) (hm : X.mg x = some (.ref (kx.cl nm))) (hsup : X.mg "super" = none) (hc : X.calm = true) (tk : Takes X (wish G RX)) (hg : Gl X x := by rfl) (hdb : (x == ("__debug__" : Str)) = false := by decide) :
    PSd X G (.Raise (some (.Call (.Name x p) [] [] pos)) none pos') (dRz kx nm RX) := by
  refine ⟨_, ps_raise hc tk (pmk_er T hr hm hsup hg hdb), fun B F H σ ρ Dd D' S q kk => ?_⟩
  exact ⟨B, F, ρ, ⟨kx.cl nm, none⟩, S, ⟨rfl, rfl⟩, q.2⟩
end
end DL

/-! text DLs -/
set_option Elab.async false
set_option linter.all false
set_option maxRecDepth 100000
set_option maxHeartbeats 4000000
namespace DL
open PySem PySem.Spec PyProof.Rows L2 RZ
/-! ### try .. except C as e -/
/-- the frame of a try's body: what stands now must stand -/
def Gx.now (G : Gx) (F B : Hp) : Gx := ⟨G.K, F, G.H0, B, G.pa⟩
section
variable {G : Gx} {B B' F F' H H' : Hp} {σ σ' : St} {ρ ρ' : En} {ex ex' : List Addr}
theorem Sr.toTry (S : Sr G B ex F H σ ρ) : Sr (G.now F B) B ex F H σ ρ :=
  ⟨Same.refl F, Same.refl B, fun a h => .inl h, S.fh, S.bh, S.dom, S.len, S.xf, S.pl, S.par, S.pf, S.pd, S.sl⟩
theorem Sr.ofTry (S : Sr G B ex F H σ ρ) (S' : Sr (G.now F B) B' ex' F' H' σ' ρ') : Sr G B ex' F' H' σ' ρ' := by
  obtain ⟨ad, h1, h2, h3⟩ := S'.sl
  refine ⟨S.f0.trans S'.f0, S.gb, fun a h => ?_, S'.fh, S'.gb.trans S'.bh, S'.dom, S'.len, S'.xf, S'.pl, S'.par, fun ap hap x hx => ?_, S'.pd, ad, fun i s hs => ?_, h2, h3⟩
  · rcases S'.fn a h with w | w
    · exact S.fn a w
    · exact .inr w
  · obtain ⟨q1, q2, q3⟩ := S'.pf ap hap x hx
    exact ⟨q1, S'.gb.free q2, q3⟩
  · have q := h1 i s hs
    cases s with
    | own o =>
      obtain ⟨a, e, r, z⟩ := q
      exact ⟨a, e, r, fun x hx => ⟨(z x hx).1, (z x hx).2.1, S'.gb.free (z x hx).2.2⟩⟩
    | _ => exact q
theorem Sr.setPin (S : Sr G B ex F H σ ρ) (i : Nat) (a : Addr) : Sr G B ex F H (σ.set i (some (.ref a))) ⟨ρ.sl.set i (.pin a), ρ.pa⟩ := by
  obtain ⟨ad, h1, h2, h3⟩ := S.sl
  have go : ∀ {l : Nat} {w : OD}, (ρ.sl.set i (Sl.pin a))[l]? = some (.own w) → l ≠ i ∧ ρ.sl[l]? = some (.own w) := fun {l w} hs => by
    by_cases q : l = i
    · subst q
      have lt : l < (ρ.sl.set l (Sl.pin a)).length := (List.getElem?_eq_some_iff.mp hs).1
      rw [List.length_set] at lt
      rw [List.getElem?_set_self lt] at hs
      cases hs
    · rw [List.getElem?_set_ne (Ne.symm q)] at hs
      exact ⟨q, hs⟩
  refine ⟨S.f0, S.gb, S.fn, S.fh, S.bh, S.dom, by simp [S.len], S.xf, S.pl, S.par, S.pf, S.pd, ad, fun j s hs => ?_, fun j o hs => h2 j o (go hs).2, fun j k o u hj hk => h3 j k o u (go hj).2 (go hk).2⟩
  have hs' : (ρ.sl.set i (Sl.pin a))[j]? = some s := hs
  by_cases q : j = i
  · subst q
    have lt : j < (ρ.sl.set j (Sl.pin a)).length := (List.getElem?_eq_some_iff.mp hs').1
    rw [List.length_set] at lt
    rw [List.getElem?_set_self lt] at hs'
    cases hs'
    show (σ.set j _)[j]? = _
    rw [List.getElem?_set_self (by rw [← S.len]; exact lt)]
  · rw [List.getElem?_set_ne (Ne.symm q)] at hs'
    have w := h1 j s hs'
    have e : (σ.set i (some (.ref a)))[j]? = σ[j]? := List.getElem?_set_ne (Ne.symm q)
    rw [e]
    exact w
theorem Sr.setNo (S : Sr G B ex F H σ ρ) (i : Nat) : Sr G B ex F H (σ.set i none) ⟨ρ.sl.set i .no, ρ.pa⟩ := by
  obtain ⟨ad, h1, h2, h3⟩ := S.sl
  have go : ∀ {l : Nat} {s : Sl}, (ρ.sl.set i Sl.no)[l]? = some s → s = .no ∨ (l ≠ i ∧ ρ.sl[l]? = some s) := fun {l s} hs => by
    by_cases q : l = i
    · subst q
      have lt : l < (ρ.sl.set l Sl.no).length := (List.getElem?_eq_some_iff.mp hs).1
      rw [List.length_set] at lt
      rw [List.getElem?_set_self lt] at hs
      cases hs
      exact .inl rfl
    · rw [List.getElem?_set_ne (Ne.symm q)] at hs
      exact .inr ⟨q, hs⟩
  refine ⟨S.f0, S.gb, S.fn, S.fh, S.bh, S.dom, by simp [S.len], S.xf, S.pl, S.par, S.pf, S.pd, ad, fun j s hs => ?_, fun j o hs => ?_, fun j k o u hj hk => ?_⟩
  · rcases go hs with rfl | ⟨q, w⟩
    · trivial
    · have e : (σ.set i none)[j]? = σ[j]? := List.getElem?_set_ne (Ne.symm q)
      rw [e]
      exact h1 j s w
  · rcases go hs with w | ⟨_, w⟩
    · cases w
    · exact h2 j o w
  · rcases go hj with w | ⟨_, w⟩
    · cases w
    · rcases go hk with w' | ⟨_, w'⟩
      · cases w'
      · exact h3 j k o u w w'
end
/-- the ends of an except suite: the name is gone behind it -/
def EndsD.gone (D : EndsD) (i : Nat) : EndsD := ⟨fun ρ => D.nx ⟨ρ.sl.set i .no, ρ.pa⟩, D.rt, fun ρ => D.bk ⟨ρ.sl.set i .no, ρ.pa⟩, fun ρ => D.ct ⟨ρ.sl.set i .no, ρ.pa⟩⟩
/-- what the clause wants of an error of the body -/
def rxTry (K : PySem.W.Frag) (C : Addr) (i : Nat) (ts : Addr → Exn → TSd) (RX : RXd) (D : EndsD) : RXd := fun x ρ => ∃ b, PySem.W.exmOne K (.ref x.C) (.ref C) = some b ∧ (b = true → ∀ a, ts a x (D.gone i) ⟨ρ.sl.set i (.pin a), ρ.pa⟩) ∧ (b = false → RX x ρ)
def dTry (K : PySem.W.Frag) (C : Addr) (i : Nat) (tb : RXd → TSd) (ts : Addr → Exn → TSd) (RX : RXd) : TSd := fun D ρ => tb (rxTry K C i ts RX D) D ρ
section
variable {X : Cx} {G : Gx} {x n : Str} {C : Addr} {i : Nat} {body suite : List Stmt} {b₀ : Stmt} {np pos pos' : Pos} {tb : RXd → TSd} {ts : Addr → Exn → TSd} {RX : RXd}
/-- all that the body's running wants -/
def tBody (X : Cx) (body : List Stmt) (W : WX) : TS := fun D σ H => ∀ (pn : List (Addr × Obj)) (xe : Value → Shared → Prop), Takes (X.tr pn xe) W → PassesOwn (model X.prog X.w) X.A X.env xe → ∃ t, PSs (X.tr pn xe) body t ∧ t D σ H
theorem ds_try (i : Nat) (hs : X.stack = X.env :: X.outer) (hf : X.env.frame = some X.env.locals) (hc : Names X x (.ref C)) (tk : Takes X (wish G RX))
    (hb : ∀ (F B : Hp) (RX' : RXd) (pn : List (Addr × Obj)) (xe : Value → Shared → Prop), Takes (X.tr pn xe) (wish (G.now F B) RX') → PassesOwn (model X.prog X.w) X.A X.env xe → PSsd (X.tr pn xe) (G.now F B) body (tb RX'))
    (hsu : ∀ (a : Addr) (oe : Obj) (e : Exn) (d : Option Addr) (pn : List (Addr × Obj)), Zc (.ref e.C) d oe → (e.idx = none → d = none) → (∃ vs, oe.data = .fields vs) → PSsd (X.suite a ((a, oe) :: pn)) G (b₀ :: suite) (ts a e)) (hN : X.N.Nodup) (hi : X.N[i]? = some n := by rfl) (hln : X.env.kindOf n = some .local := by rfl) (hK : G.K = X.K := by rfl) :
    PSd X G (.Try body [.ExceptHandler (some (.Name x np)) (some n) (b₀ :: suite) pos'] [] [] pos) (dTry G.K C i tb ts RX) := by
  let tsu : Addr → Value → Option Addr → TS := fun a cls d D σ H => ∀ (oe : Obj) (pn : List (Addr × Obj)), Zc cls d oe → (∃ vs, oe.data = .fields vs) → ∃ t, PSs (X.suite a ((a, oe) :: pn)) (b₀ :: suite) t ∧ t D σ H
  refine ⟨_, ps_try_as (tb := tBody X body) (ts := tsu) hs hf hN hi hln hc tk ?_ ?_, ?_⟩
  · intro W pn xe tk' po
    refine ⟨fun pins s σ H D I h => ?_⟩
    obtain ⟨t, h1, h2⟩ := h pn xe tk' po
    exact h1.run pins s σ H D I h2
  · intro a oe cls d pn hz hv
    refine ⟨fun pins s σ H D I h => ?_⟩
    obtain ⟨t, h1, h2⟩ := h oe pn hz hv
    exact h1.run pins s σ H D I h2
  · intro B F H σ ρ Dd D' S q kk
    show tBody X body _ D' σ H
    intro pn xe tk' po
    have tk2 : Takes (X.tr pn xe) (wish (G.now F B) (rxTry G.K C i ts RX Dd)) := tk'.imp ?_
    · obtain ⟨t, h1, h2⟩ := hb F B _ pn xe tk2 po
      refine ⟨t, h1, h2 B F H σ ρ Dd D' S.toTry q ⟨?_, ?_, ?_, ?_⟩⟩
      · rintro σ' H' ⟨F', ρ', s', S', q'⟩
        exact kk.nx _ _ ⟨F', ρ', s', S.ofTry S', q'⟩
      · rintro v H' ⟨σ', ρ', ⟨F', y, s', S', r', q'⟩ | ⟨F', pp, fpn, on, s', S', e0, r', zz, q'⟩⟩
        · exact kk.rt _ _ ⟨σ', ρ', .inl ⟨F', y, s', S.ofTry S', r', q'⟩⟩
        · exact kk.rt _ _ ⟨σ', ρ', .inr ⟨F', pp, fpn, on, s', S.ofTry S', e0, r', zz, q'⟩⟩
      · rintro σ' H' ⟨F', ρ', s', S', q'⟩
        exact kk.bk _ _ ⟨F', ρ', s', S.ofTry S', q'⟩
      · rintro σ' H' ⟨F', ρ', s', S', q'⟩
        exact kk.ct _ _ ⟨F', ρ', s', S.ofTry S', q'⟩
    · rintro cls d σ' H' ⟨B', F', ρ', e, S', ea, b, hb1, hy, hn⟩
      have S2 := S.ofTry S'
      obtain ⟨rfl, ed⟩ := ea
      refine ⟨b, by rw [← hK]; exact hb1, fun w a ha => ?_, fun w => ⟨B, F', ρ', e, S2, ⟨rfl, ed⟩, hn w⟩⟩
      intro oe pn' hz hv
      have nd : e.idx = none → d = none := fun w => by rw [w] at ed; exact ed
      obtain ⟨t, h1, h2⟩ := hsu a oe e d pn' hz nd hv
      refine ⟨t, h1, h2 B F' H' _ _ (Dd.gone i) _ (S2.setPin i a) (hy w a) ⟨?_, ?_, ?_, ?_⟩⟩
      · rintro σ3 H3 ⟨F3, ρ3, s3, S3, q3⟩
        exact kk.nx _ _ ⟨F3, _, S'.f0.trans s3, S3.setNo i, q3⟩
      · rintro v H3 z
        exact (kk.step S'.f0).rt v H3 z
      · rintro σ3 H3 ⟨F3, ρ3, s3, S3, q3⟩
        exact kk.bk _ _ ⟨F3, _, S'.f0.trans s3, S3.setNo i, q3⟩
      · rintro σ3 H3 ⟨F3, ρ3, s3, S3, q3⟩
        exact kk.ct _ _ ⟨F3, _, S'.f0.trans s3, S3.setNo i, q3⟩
end
/-! ### isinstance(e, C), e the caught error -/
def dIsE (K : PySem.W.Frag) (i : Nat) (a : Addr) (e : Exn) (c : Value) : TEd := fun ρ Q => ρ.sl[i]? = some (.pin a) ∧ e.idx = none ∧ ExcC K e.C ∧ ∃ b, PySem.W.kitOne K (.ref e.C) c = some b ∧ Q (.bl b) ρ
theorem d_isE {X : Cx} {G : Gx} {a : Addr} {oe : Obj} {pn : List (Addr × Obj)} {e : Exn} {d : Option Addr} (i : Nat) {n cn : Str} {C : Addr} {p p1 p2 pos : Pos} (hz : Zc (.ref e.C) d oe) (nd : e.idx = none → d = none) (hf : ∃ vs, oe.data = .fields vs) (hb : X.mg "isinstance" = none) (hC : X.mg cn = some (.ref C)) (hK : G.K = X.K := by rfl)
    (hN : (X.suite a ((a, oe) :: pn)).N[i]? = some n := by rfl) (hv : Vis (X.suite a ((a, oe) :: pn)).env.scope n := by first | exact Or.inl rfl | exact Or.inr (Or.inl rfl) | exact Or.inr (Or.inr rfl)) (hd : (n == ("__debug__" : Str)) = false := by decide) (hcd : (n == ("__classdict__" : Str)) = false := by decide)
    (hg : Gl (X.suite a ((a, oe) :: pn)) "isinstance" := by rfl) (hgc : Gl (X.suite a ((a, oe) :: pn)) cn := by rfl) (hdc : (cn == ("__debug__" : Str)) = false := by decide)
    (hs : starEach [.Name n p1, .Name cn p2] (X.suite a ((a, oe) :: pn)).env = (false, eval (.Name n p1) (X.suite a ((a, oe) :: pn)).env) :: starEach [.Name cn p2] (X.suite a ((a, oe) :: pn)).env := by rfl)
    (hs2 : starEach [.Name cn p2] (X.suite a ((a, oe) :: pn)).env = (false, eval (.Name cn p2) (X.suite a ((a, oe) :: pn)).env) :: starEach [] (X.suite a ((a, oe) :: pn)).env := by rfl)
    (hpl : (backTo pos (starEach [.Name cn p2] (X.suite a ((a, oe) :: pn)).env)).any (·.1) = false := by rfl) :
    PEd (X.suite a ((a, oe) :: pn)) G (.Call (.Name "isinstance" p) [.Name n p1, .Name cn p2] [] pos) (dIsE G.K i a e (.ref C)) := by
  by_cases w : e.idx = none ∧ ExcC X.K e.C
  · have dn := nd w.1
    subst dn
    refine ⟨_, pe_callB (call_isE w.2 hz hf) hg hb PyProof.Rows.Boot.«isinstance» (pa_cons (pe_var (i := i) hN hv hd hcd) (pa_cons (pe_glob hgc hC (v := .ref C) rfl hdc) pa_nil hs2) hs) (by decide) (by decide) hs hpl, fun B ex F H σ ρ Q Qh S q kk => ?_⟩
    obtain ⟨q1, _, _, b, q2, q3⟩ := q
    obtain ⟨ad, h1, _⟩ := S.sl
    have e1 := h1 i _ q1
    exact ⟨.ref a, e1, .ref C, .ref C, b, rfl, fun u r => r, by rw [← hK]; exact q2, kk _ _ ⟨F, .bl b, ρ, Same.refl F, S, .bl b, q3⟩⟩
  · refine ⟨fun _ _ _ => False, ⟨fun _ _ _ _ _ _ h => h.elim⟩, fun B ex F H σ ρ Q Qh S q kk => ?_⟩
    exact absurd ⟨q.2.1, by rw [← hK]; exact q.2.2.1⟩ w
end DL

/-! text DLt -/
set_option Elab.async false
set_option linter.all false
set_option maxRecDepth 100000
set_option maxHeartbeats 4000000
/-! Several except clauses, with and without a name. -/
namespace DL
open PySem PySem.Spec PyProof.Rows L2
abbrev Hd := Value × Option Nat × (Addr → Value → Option Addr → TS)
def endsGone (D : Ends) (i : Nat) : Ends := { nx := fun σ' H' => D.nx (σ'.set i none) H', rt := D.rt, bk := fun σ' H' => D.bk (σ'.set i none) H', ct := fun σ' H' => D.ct (σ'.set i none) H' }
def wMix (K : PySem.W.Frag) (Wout : WX) (D : Ends) : List Hd → WX
  | [] => Wout
  | (c, none, ts) :: r => fun cls d σ H => ∃ b, PySem.W.exmOne K cls c = some b ∧ (b = true → ∀ a, H a = none → ts a cls d D σ H) ∧ (b = false → wMix K Wout D r cls d σ H)
  | (c, some i, ts) :: r => fun cls d σ H => ∃ b, PySem.W.exmOne K cls c = some b ∧ (b = true → ∀ a, H a = none → ts a cls d (endsGone D i) (σ.set i (some (.ref a))) H) ∧ (b = false → wMix K Wout D r cls d σ H)
inductive HdsMix (X : Cx) : List ExceptHandler → List Hd → Prop
  | nil : HdsMix X [] []
  | cons {x : Str} {c : Value} {ts : Addr → Value → Option Addr → TS} {b₀ : Stmt} {suite : List Stmt} {np pos' : Pos} {hds : List ExceptHandler} {l : List Hd} (hc : Names X x c)
      (hsu : ∀ (a : Addr) (oe : Obj) (cls : Value) (d : Option Addr) (pn : List (Addr × Obj)), Zc cls d oe → (∃ vs, oe.data = .fields vs) → PSs (X.suite a ((a, oe) :: pn)) (b₀ :: suite) (ts a cls d)) (r : HdsMix X hds l) :
      HdsMix X (.ExceptHandler (some (.Name x np)) none (b₀ :: suite) pos' :: hds) ((c, none, ts) :: l)
  | as {x n : Str} {i : Nat} {c : Value} {ts : Addr → Value → Option Addr → TS} {b₀ : Stmt} {suite : List Stmt} {np pos' : Pos} {hds : List ExceptHandler} {l : List Hd} (hc : Names X x c) (hi : X.N[i]? = some n) (hln : X.env.kindOf n = some .local)
      (hsu : ∀ (a : Addr) (oe : Obj) (cls : Value) (d : Option Addr) (pn : List (Addr × Obj)), Zc cls d oe → (∃ vs, oe.data = .fields vs) → PSs (X.suite a ((a, oe) :: pn)) (b₀ :: suite) (ts a cls d)) (r : HdsMix X hds l) :
      HdsMix X (.ExceptHandler (some (.Name x np)) (some n) (b₀ :: suite) pos' :: hds) ((c, some i, ts) :: l)
section
variable {X : Cx} {body : List Stmt} {h₀ : ExceptHandler} {hds : List ExceptHandler} {l : List Hd} {pos : Pos} {tb : WX → TS} {Wout : WX}
theorem ps_try_mix (hs : X.stack = X.env :: X.outer) (hf : X.env.frame = some X.env.locals) (hN : X.N.Nodup) (tk : Takes X Wout)
    (hb : ∀ (W : WX) (pn : List (Addr × Obj)) (xe : Value → Shared → Prop), Takes (X.tr pn xe) W → PassesOwn (model X.prog X.w) X.A X.env xe → PSs (X.tr pn xe) body (tb W))
    (hh : HdsMix X (h₀ :: hds) l) : PS X (.Try body (h₀ :: hds) [] [] pos) (fun D σ H => tb (wMix X.K Wout D l) D σ H) := by
  refine ⟨fun pins s σ H D I h => ?_⟩
  have ok := I.ok
  have hfr : X.A.frames = some (X.env :: X.outer) := by rw [ok.frames, hs]
  refine wpAny_Try_except ?_
  refine wpAny_mono ((hb (wMix X.K Wout D l) (X.pn ++ pins) (fun e s₁ => wpAny (model X.prog X.w) X.A (noteFrame e X.env) (fun _ s₂ => wpAny (model X.prog X.w) X.A (setFlight e none) (fun _ s₃ =>
    wpAny (model X.prog X.w) X.A (handleBy e X.env (h₀ :: hds)) (SP X pins D) X.xe s₃) X.xe s₂) X.xe s₁) (fun u s' xx => ?_) PassesOwn.looking).run [] s σ H D (I.toTry _) h) (fun f s1 hsp => ?_) (fun e s1 he => he)
  · -- the catch
    obtain ⟨a, B, sI, pins', σ', H', cls, d, rfl, J', nb, up, sky, na, os, ag, w⟩ := xx
    have J : Inv X pins σ' H' sI := J'.ofTry ok
    have sky' : Sky B (X.env :: X.outer) a (Zc cls d) X.env.locals s'.heap := by rw [← hs]; exact sky
    show wpAny (model X.prog X.w) X.A (noteFrame (.ref a) X.env) _ _ _
    refine Sky.land Zc.steady hfr hf sky' fun h3 fl3 up3 => ?_
    have J3 : Inv X pins σ' H' { s' with heap := h3 } := J.landed nb fl3.1 (up.trans up3) os ag
    obtain ⟨oe3, vs3, he3, hz3, hd3⟩ := fl3.there
    have notFr : ∀ {h : Heap} {o : Obj} {vs : Array Value}, h.FunFrames B (X.env :: X.outer) → h.get? a = some o → o.data = .fields vs → a ∉ frs (X.env :: X.outer) := fun {h o vs} ff e dd hm => by
      obtain ⟨_, o', e', hnf⟩ := ff.mem hm
      rw [e] at e'; cases e'
      exact hnf _ dd
    have nfr := notFr fl3.2.2.1 he3 hd3
    have nL : a ≠ X.env.locals := fun z => nfr (List.mem_filterMap.mpr ⟨X.env, List.mem_cons_self, by rw [hf, z]⟩)
    have nF : a ∉ X.fs := fun hm => by
      obtain ⟨e, he, q⟩ := List.mem_filterMap.mp hm
      exact nfr (List.mem_filterMap.mpr ⟨e, List.mem_cons_of_mem _ he, q⟩)
    have S3 := J3.suite he3 hd3 na nL nF
    have go : ∀ {hds' : List ExceptHandler} {l' : List Hd}, HdsMix X hds' l' → wMix X.K Wout D l' cls d σ' H' →
        wpAny (model X.prog X.w) X.A (handleBy (.ref a) X.env hds') (SP X pins D) X.xe { s' with heap := h3 } := by
      intro hds' l' hk
      have testOf : ∀ {x : Str} {c : Value} {np : Pos}, Names X x c → ∀ {Q : Value → Shared → Prop} {E : Value → Shared → Prop}, Q c { s' with heap := h3 } → wpAny (model X.prog X.w) (X.A.mark (some (.ref a))) (eval (.Name x np) X.env) Q E { s' with heap := h3 } := fun {x c np} hc {Q E} q => by
        obtain ⟨hg, hdbg, hm | ⟨hm, hv, hnn⟩⟩ := hc
        · exact ld_glob (X := X.suite a ((a, oe3) :: (X.pn ++ pins))) S3 hg hm q hdbg
        · exact ld_blt (X := X.suite a ((a, oe3) :: (X.pn ++ pins))) S3 hg hm hv q hnn hdbg
      have LT : PySem.W.Looks (model X.prog X.w) h3 (typeOf (.ref a)) cls := fun A Q E s k q => wpAny_typeOf_ref (k _ _ he3) (by rw [hz3.1]; exact q)
      induction hk with
      | nil =>
        intro w
        refine wpAny_handleBy_nil ?_
        obtain ⟨k1, k2, k3, oe, vs, T, oT, ts', he, hz, hd, h1, hr⟩ := id fl3
        unfold PySem.passOn
        refine wpAny_bind (wpAny_field he hd h1 ?_)
        rw [if_neg (show ¬ ((Value.ref T == Value.none) = true) from by simp)]
        have fin : wpAny (model X.prog X.w) X.A (setFlight (.ref a) X.env.frame) (fun _ s4 => wpAny (model X.prog X.w) X.A (throw (.ref a) : Sem Flow) (SP X pins D) X.xe s4) X.xe { s' with heap := h3 } := by
          rw [hf]
          refine HandSPX.setFlight_upZ fl3 fun h4 hh4 up4 => wpAny_throw (tk _ _ ?_)
          exact ⟨a, B, sI, pins, σ', H', cls, d, rfl, J, nb, (up.trans up3).trans up4, .inr (.inr (by rw [hs]; exact hh4)), na, os, ag, w⟩
        first
          | exact wpAny_bind (wpAny_pure (wpAny_bind fin))
          | exact wpAny_bind fin
      | @cons x c ts b₀ suite np pos' hds2 l2 hc hsu r ih =>
        intro w
        obtain ⟨b, hb1, hyes, hno⟩ := w
        refine wpAny_handleBy_cons (codeAny_handlers_test ?_) (by intro q; cases q)
        have LM := PySem.W.exm_one (M := model X.prog X.w) (J3.kIn) LT hb1
        refine testOf hc (LM.here ?_)
        cases b with
        | true =>
          refine codeAny_handlers_suite ?_
          refine HandSPX.lands_againZ fl3 fun h4 fl4 up4 => ?_
          have J4 : Inv X pins σ' H' { s' with heap := h4 } := J.landed nb fl4.1 ((up.trans up3).trans up4) os ag
          obtain ⟨oe4, vs4, he4, hz4, hd4⟩ := fl4.there
          have S4 := J4.suite he4 hd4 na nL nF
          refine wpAny_mono ((hsu a oe4 cls d (X.pn ++ pins) hz4 ⟨_, hd4⟩).run [] _ _ H' _ S4 (hyes rfl a na)) (fun f s6 hsp => ?_) (fun _ _ z => False.elim z)
          cases f with
          | next =>
            obtain ⟨σ6, H6, S6, q6⟩ := hsp
            exact ⟨_, _, S6.unsuite ok, q6⟩
          | brk =>
            obtain ⟨σ6, H6, S6, q6⟩ := hsp
            exact ⟨_, _, S6.unsuite ok, q6⟩
          | cont =>
            obtain ⟨σ6, H6, S6, q6⟩ := hsp
            exact ⟨_, _, S6.unsuite ok, q6⟩
          | ret u =>
            obtain ⟨v6, σ6, H6, S6, r6, q6⟩ := hsp
            exact ⟨_, _, _, S6.unsuite ok, r6, q6⟩
        | false =>
          show wpAny _ X.A (handleBy (.ref a) X.env hds2) _ _ _
          exact ih (hno rfl)
      | @as x n i c ts b₀ suite np pos' hds2 l2 hc hi hln hsu r ih =>
        intro w
        obtain ⟨b, hb1, hyes, hno⟩ := w
        have hloc : Loc X.env.scope n := .inl hln
        refine wpAny_handleBy_cons (codeAny_handlers_test ?_) (by intro q; cases q)
        have LM := PySem.W.exm_one (M := model X.prog X.w) (J3.kIn) LT hb1
        refine testOf hc (LM.here ?_)
        cases b with
        | true =>
          refine codeAny_handlers_suite_as ?_
          refine HandSPX.lands_againZ fl3 fun h4 fl4 up4 => ?_
          have J4 : Inv X pins σ' H' { s' with heap := h4 } := J.landed nb fl4.1 ((up.trans up3).trans up4) os ag
          obtain ⟨oe4, vs4, he4, hz4, hd4⟩ := fl4.there
          have S4 := J4.suite he4 hd4 na nL nF
          refine store_ok (X := X.suite a ((a, oe4) :: (X.pn ++ pins))) (v := .ref a) S4 hN hi hloc rfl (fun s5 S5 => ?_) (.inr hln)
          refine wpAny_mono ((hsu a oe4 cls d (X.pn ++ pins) hz4 ⟨_, hd4⟩).run [] s5 _ H' _ S5 (hyes rfl a na)) (fun f s6 hsp => ?_) (fun _ _ z => False.elim z)
          have end_ : ∀ {σ6 : St} {H6 : Hp} {Q : Shared → Prop}, Inv (X.suite a ((a, oe4) :: (X.pn ++ pins))) [] σ6 H6 s6 → (∀ s7, Inv X pins (σ6.set i none) H6 s7 → Q s7) →
              wpAny (model X.prog X.w) X.A (do bindName X.env n .none; unbindBehindTheSuite X.env n pos') (fun _ s7 => Q s7) X.xe s6 := fun {σ6 H6 Q} S6 hq => gone_ok (S6.unsuite ok) hN hi hln hq
          cases f with
          | next =>
            obtain ⟨σ6, H6, S6, q6⟩ := hsp
            exact end_ S6 fun s7 J7 => ⟨_, _, J7, q6⟩
          | brk =>
            obtain ⟨σ6, H6, S6, q6⟩ := hsp
            exact end_ S6 fun s7 J7 => ⟨_, _, J7, q6⟩
          | cont =>
            obtain ⟨σ6, H6, S6, q6⟩ := hsp
            exact end_ S6 fun s7 J7 => ⟨_, _, J7, q6⟩
          | ret u =>
            obtain ⟨v6, σ6, H6, S6, r6, q6⟩ := hsp
            exact end_ S6 fun s7 J7 => ⟨_, _, _, J7, r6, q6⟩
        | false =>
          show wpAny _ X.A (handleBy (.ref a) X.env hds2) _ _ _
          exact ih (hno rfl)
    exact go hh w
  · cases f with
    | next =>
      obtain ⟨σ', H', J', q⟩ := hsp
      exact wpAny_execs_nil ⟨σ', H', J'.ofTry ok, q⟩
    | brk =>
      obtain ⟨σ', H', J', q⟩ := hsp
      exact ⟨σ', H', J'.ofTry ok, q⟩
    | cont =>
      obtain ⟨σ', H', J', q⟩ := hsp
      exact ⟨σ', H', J'.ofTry ok, q⟩
    | ret u =>
      obtain ⟨v, σ', H', J', r, q⟩ := hsp
      exact ⟨v, σ', H', J'.ofTry ok, r, q⟩
end
/-! ### over data -/
section
open L2 RZ
def ExOk (d : Option Addr) (x : Exn) : Prop := match x.idx with
  | none => d = none
  | some _ => ∃ dd, d = some dd
def pinSl (a : Addr) (d : Option Addr) (x : Exn) : Sl := match d, x.idx with
  | some dd, some y => .xn a dd y
  | _, _ => .pin a
abbrev HdD := Addr × Option Nat × (Addr → Option Addr → Exn → TSd)
def rxMix (K : PySem.W.Frag) (RX : RXd) (D : EndsD) : List HdD → RXd
  | [] => RX
  | (C, none, ts) :: r => fun x ρ => ∃ b, PySem.W.exmOne K (.ref x.C) (.ref C) = some b ∧ (b = true → ∀ a d, ExOk d x → ts a d x D ρ) ∧ (b = false → rxMix K RX D r x ρ)
  | (C, some i, ts) :: r => fun x ρ => ∃ b, PySem.W.exmOne K (.ref x.C) (.ref C) = some b ∧ (b = true → ∀ a d, ExOk d x → ts a d x (D.gone i) ⟨ρ.sl.set i (pinSl a d x), ρ.pa⟩) ∧ (b = false → rxMix K RX D r x ρ)
def dTryM (K : PySem.W.Frag) (hs : List HdD) (tb : RXd → TSd) (RX : RXd) : TSd := fun D ρ => tb (rxMix K RX D hs) D ρ
inductive HdsD (X : Cx) (G : Gx) : List ExceptHandler → List HdD → Prop
  | nil : HdsD X G [] []
  | cons {x : Str} {C : Addr} {ts : Addr → Option Addr → Exn → TSd} {b₀ : Stmt} {suite : List Stmt} {np pos' : Pos} {hds : List ExceptHandler} {l : List HdD} (hc : Names X x (.ref C))
      (hsu : ∀ (a : Addr) (oe : Obj) (e : Exn) (d : Option Addr) (pn : List (Addr × Obj)), Zc (.ref e.C) d oe → ExOk d e → (∃ vs, oe.data = .fields vs) → PSsd (X.suite a ((a, oe) :: pn)) G (b₀ :: suite) (ts a d e)) (r : HdsD X G hds l) :
      HdsD X G (.ExceptHandler (some (.Name x np)) none (b₀ :: suite) pos' :: hds) ((C, none, ts) :: l)
  | as {x n : Str} {C : Addr} {ts : Addr → Option Addr → Exn → TSd} {b₀ : Stmt} {suite : List Stmt} {np pos' : Pos} {hds : List ExceptHandler} {l : List HdD} (i : Nat) (hc : Names X x (.ref C))
      (hsu : ∀ (a : Addr) (oe : Obj) (e : Exn) (d : Option Addr) (pn : List (Addr × Obj)), Zc (.ref e.C) d oe → ExOk d e → (∃ vs, oe.data = .fields vs) → PSsd (X.suite a ((a, oe) :: pn)) G (b₀ :: suite) (ts a d e)) (r : HdsD X G hds l)
      (hi : X.N[i]? = some n := by rfl) (hln : X.env.kindOf n = some .local := by rfl) :
      HdsD X G (.ExceptHandler (some (.Name x np)) (some n) (b₀ :: suite) pos' :: hds) ((C, some i, ts) :: l)
section
variable {G : Gx} {B B' F F' H H' : Hp} {σ σ' : St} {ρ ρ' : En} {ex ex' : List Addr}
theorem Sr.setXn (S : Sr G B ex F H σ ρ) (i : Nat) (a dd : Addr) (y : D) (h : ∃ v, F dd = some (.xd [(("index" : Str), v)]) ∧ At G.K F v y) : Sr G B ex F H (σ.set i (some (.ref a))) ⟨ρ.sl.set i (.xn a dd y), ρ.pa⟩ := by
  obtain ⟨ad, h1, h2, h3⟩ := S.sl
  have go : ∀ {l : Nat} {w : OD}, (ρ.sl.set i (Sl.xn a dd y))[l]? = some (.own w) → l ≠ i ∧ ρ.sl[l]? = some (.own w) := fun {l w} hs => by
    by_cases q : l = i
    · subst q
      have lt : l < (ρ.sl.set l (Sl.xn a dd y)).length := (List.getElem?_eq_some_iff.mp hs).1
      rw [List.length_set] at lt
      rw [List.getElem?_set_self lt] at hs
      cases hs
    · rw [List.getElem?_set_ne (Ne.symm q)] at hs
      exact ⟨q, hs⟩
  refine ⟨S.f0, S.gb, S.fn, S.fh, S.bh, S.dom, by simp [S.len], S.xf, S.pl, S.par, S.pf, S.pd, ad, fun j s hs => ?_, fun j o hs => h2 j o (go hs).2, fun j k o u hj hk => h3 j k o u (go hj).2 (go hk).2⟩
  have hs' : (ρ.sl.set i (Sl.xn a dd y))[j]? = some s := hs
  by_cases q : j = i
  · subst q
    have lt : j < (ρ.sl.set j (Sl.xn a dd y)).length := (List.getElem?_eq_some_iff.mp hs').1
    rw [List.length_set] at lt
    rw [List.getElem?_set_self lt] at hs'
    cases hs'
    refine ⟨?_, h⟩
    show (σ.set j _)[j]? = _
    rw [List.getElem?_set_self (by rw [← S.len]; exact lt)]
  · rw [List.getElem?_set_ne (Ne.symm q)] at hs'
    have w := h1 j s hs'
    have e : (σ.set i (some (.ref a)))[j]? = σ[j]? := List.getElem?_set_ne (Ne.symm q)
    rw [e]
    exact w
theorem Sr.setExn (S : Sr G B ex F H σ ρ) (i : Nat) (a : Addr) {cls : Value} {d : Option Addr} {x : Exn} (h : ExAt G.K F H cls d x) : Sr G B ex F H (σ.set i (some (.ref a))) ⟨ρ.sl.set i (pinSl a d x), ρ.pa⟩ := by
  obtain ⟨C, idx⟩ := x
  obtain ⟨_, h⟩ := h
  cases idx with
  | none =>
    have e : d = none := h
    subst e
    exact S.setPin i a
  | some y =>
    obtain ⟨dd, v, e, h1, h2⟩ := h
    subst e
    exact S.setXn i a dd y ⟨v, h1, h2⟩
theorem ExAt.ok {K : PySem.W.Frag} {cls : Value} {d : Option Addr} {x : Exn} (h : ExAt K F H cls d x) : ExOk d x := by
  obtain ⟨C, idx⟩ := x
  obtain ⟨_, h⟩ := h
  cases idx with
  | none => exact h
  | some y =>
    obtain ⟨dd, v, e, _⟩ := h
    exact ⟨dd, e⟩
end
section
variable {X : Cx} {G : Gx} {hs : List ExceptHandler} {l : List HdD} {RX : RXd} {Wout : WX}
theorem suite_ok {b₀ : Stmt} {suite : List Stmt} {ts : Addr → Option Addr → Exn → TSd} {e : Exn} {d : Option Addr} {a : Addr} {B F H : Hp} {σ : St} {ρ : En} {Dd : EndsD} {D' : Ends}
    (hsu : ∀ (a : Addr) (oe : Obj) (e : Exn) (d : Option Addr) (pn : List (Addr × Obj)), Zc (.ref e.C) d oe → ExOk d e → (∃ vs, oe.data = .fields vs) → PSsd (X.suite a ((a, oe) :: pn)) G (b₀ :: suite) (ts a d e))
    (S : Sr G B [] F H σ ρ) (ok : ExOk d e) (q : ts a d e Dd ρ) (k : DLe G B F Dd D') (oe : Obj) (pn : List (Addr × Obj)) (hz : Zc (.ref e.C) d oe) (hv : ∃ vs, oe.data = .fields vs) : ∃ t, PSs (X.suite a ((a, oe) :: pn)) (b₀ :: suite) t ∧ t D' σ H := by
  obtain ⟨t, h1, h2⟩ := hsu a oe e d pn hz ok hv
  exact ⟨t, h1, h2 B F H σ ρ Dd D' S q k⟩
def tSu (X : Cx) (bs : List Stmt) : Addr → Value → Option Addr → TS := fun a cls d D σ H => ∀ (oe : Obj) (pn : List (Addr × Obj)), Zc cls d oe → (∃ vs, oe.data = .fields vs) → ∃ t, PSs (X.suite a ((a, oe) :: pn)) bs t ∧ t D σ H
theorem tSu_ok {bs : List Stmt} (a : Addr) (oe : Obj) (cls : Value) (d : Option Addr) (pn : List (Addr × Obj)) (hz : Zc cls d oe) (hv : ∃ vs, oe.data = .fields vs) : PSs (X.suite a ((a, oe) :: pn)) bs (tSu X bs a cls d) := by
  refine ⟨fun pins s σ H D I h => ?_⟩
  obtain ⟨t, h1, h2⟩ := h oe pn hz hv
  exact h1.run pins s σ H D I h2
theorem hds_low (hK : G.K = X.K) (h : HdsD X G hs l) : ∃ l', HdsMix X hs l' ∧ ∀ (B F F' H' : Hp) (σ' : St) (ρ' : En) (Dd : EndsD) (D' : Ends) (e : Exn) (d : Option Addr), Sr G B [] F' H' σ' ρ' → Same F F' → ExAt G.K F' H' (.ref e.C) d e → DLe G B F Dd D' → (RX e ρ' → Wout (.ref e.C) d σ' H') →
    rxMix G.K RX Dd l e ρ' → wMix X.K Wout D' l' (.ref e.C) d σ' H' := by
  induction h with
  | nil => exact ⟨[], .nil, fun B F F' H' σ' ρ' Dd D' e d S s ea k o q => o q⟩
  | @cons x C ts b₀ suite np pos' hds l hc hsu r ih =>
    obtain ⟨l', m, ok⟩ := ih
    refine ⟨(.ref C, none, tSu X (b₀ :: suite)) :: l', .cons hc tSu_ok m, ?_⟩
    rintro B F F' H' σ' ρ' Dd D' e d S s ea k o ⟨b, hb, hy, hn⟩
    refine ⟨b, by rw [← hK]; exact hb, fun w a ha => ?_, fun w => ok B F F' H' σ' ρ' Dd D' e d S s ea k o (hn w)⟩
    exact suite_ok hsu S ea.ok (hy w a d ea.ok) (k.step s)
  | @as x n C ts b₀ suite np pos' hds l i hc hsu r hi hln ih =>
    obtain ⟨l', m, ok⟩ := ih
    refine ⟨(.ref C, some i, tSu X (b₀ :: suite)) :: l', .as hc hi hln tSu_ok m, ?_⟩
    rintro B F F' H' σ' ρ' Dd D' e d S s ea k o ⟨b, hb, hy, hn⟩
    refine ⟨b, by rw [← hK]; exact hb, fun w a ha => ?_, fun w => ok B F F' H' σ' ρ' Dd D' e d S s ea k o (hn w)⟩
    have k2 := k.step s
    refine suite_ok (Dd := Dd.gone i) hsu (S.setExn i a ea) ea.ok (hy w a d ea.ok) ⟨?_, ?_, ?_, ?_⟩
    · rintro σ3 H3 ⟨F3, ρ3, s3, S3, q3⟩
      exact k2.nx _ _ ⟨F3, _, s3, S3.setNo i, q3⟩
    · intro v H3 z
      exact k2.rt v H3 z
    · rintro σ3 H3 ⟨F3, ρ3, s3, S3, q3⟩
      exact k2.bk _ _ ⟨F3, _, s3, S3.setNo i, q3⟩
    · rintro σ3 H3 ⟨F3, ρ3, s3, S3, q3⟩
      exact k2.ct _ _ ⟨F3, _, s3, S3.setNo i, q3⟩
end
theorem ds_tryM {X : Cx} {G : Gx} {body : List Stmt} {h₀ : ExceptHandler} {hds : List ExceptHandler} {l : List HdD} {pos : Pos} {tb : RXd → TSd} {RX : RXd} (hs : X.stack = X.env :: X.outer) (hf : X.env.frame = some X.env.locals) (tk : Takes X (wish G RX))
    (hb : ∀ (F B : Hp) (RX' : RXd) (pn : List (Addr × Obj)) (xe : Value → Shared → Prop), Takes (X.tr pn xe) (wish (G.now F B) RX') → PassesOwn (model X.prog X.w) X.A X.env xe → PSsd (X.tr pn xe) (G.now F B) body (tb RX'))
    (hh : HdsD X G (h₀ :: hds) l) (hN : X.N.Nodup) (hK : G.K = X.K := by rfl) : PSd X G (.Try body (h₀ :: hds) [] [] pos) (dTryM G.K l tb RX) := by
  obtain ⟨l', hm, hok⟩ := hds_low (RX := RX) (Wout := wish G RX) hK hh
  refine ⟨_, ps_try_mix (tb := tBody X body) hs hf hN tk ?_ hm, ?_⟩
  · intro W pn xe tk' po
    refine ⟨fun pins s σ H D I h => ?_⟩
    obtain ⟨t, h1, h2⟩ := h pn xe tk' po
    exact h1.run pins s σ H D I h2
  · intro B F H σ ρ Dd D' S q kk
    show tBody X body _ D' σ H
    intro pn xe tk' po
    have tk2 : Takes (X.tr pn xe) (wish (G.now F B) (rxMix G.K RX Dd l)) := tk'.imp ?_
    · obtain ⟨t, h1, h2⟩ := hb F B _ pn xe tk2 po
      refine ⟨t, h1, h2 B F H σ ρ Dd D' S.toTry q ⟨?_, ?_, ?_, ?_⟩⟩
      · rintro σ' H' ⟨F', ρ', s', S', q'⟩
        exact kk.nx _ _ ⟨F', ρ', s', S.ofTry S', q'⟩
      · rintro v H' ⟨σ', ρ', ⟨F', y, s', S', r', q'⟩ | ⟨F', pp, fpn, on, s', S', e0, r', zz, q'⟩⟩
        · exact kk.rt _ _ ⟨σ', ρ', .inl ⟨F', y, s', S.ofTry S', r', q'⟩⟩
        · exact kk.rt _ _ ⟨σ', ρ', .inr ⟨F', pp, fpn, on, s', S.ofTry S', e0, r', zz, q'⟩⟩
      · rintro σ' H' ⟨F', ρ', s', S', q'⟩
        exact kk.bk _ _ ⟨F', ρ', s', S.ofTry S', q'⟩
      · rintro σ' H' ⟨F', ρ', s', S', q'⟩
        exact kk.ct _ _ ⟨F', ρ', s', S.ofTry S', q'⟩
    · rintro cls d σ' H' ⟨B', F', ρ', e, S', ea, q'⟩
      have S2 := S.ofTry S'
      have e1 : cls = .ref e.C := ea.1
      subst e1
      exact hok B F F' H' σ' ρ' Dd D' e d S2 S'.f0 ea kk (fun w => ⟨B, F', ρ', e, S2, ea, w⟩) q'
end
end DL

/-! text DLu -/
set_option Elab.async false
set_option linter.all false
set_option maxRecDepth 100000
set_option maxHeartbeats 4000000
/-! a, b, c = e1, e2, e3 with plain names. -/
namespace DL
open PySem PySem.Spec PyProof.Rows L2 RZ
section
variable {X : Cx} {G : Gx} {pos : Pos} {a b c e : Expr}
inductive RvAt (G : Gx) (B F H : Hp) : List V → List Rv → List Addr → Prop
  | nil : RvAt G B F H [] [] []
  | d {v : V} {vs : List V} {x : D} {rs : List Rv} {fp : List Addr} : At G.K F v x → RvAt G B F H vs rs fp → RvAt G B F H (v :: vs) (.d x :: rs) fp
  | own {p : Addr} {vs : List V} {o : OD} {rs : List Rv} {fp1 fp : List Addr} : OwnAt G.K F H fp1 p o → (∀ x ∈ fp1, F x = none ∧ G.H0 x = none ∧ B x = none) → (∀ x ∈ fp1, x ∉ fp) → RvAt G B F H vs rs fp → RvAt G B F H (.ref p :: vs) (.own o :: rs) (fp1 ++ fp)
theorem RvAt.weakB {B B' F H : Hp} (b : ∀ x, B' x = none → B x = none) : ∀ {vs : List V} {rs : List Rv} {fp : List Addr}, RvAt G B' F H vs rs fp → RvAt G B F H vs rs fp
  | _, _, _, .nil => .nil
  | _, _, _, .d r q => .d r (q.weakB b)
  | _, _, _, .own r z n q => .own r (fun x hx => ⟨(z x hx).1, (z x hx).2.1, b x (z x hx).2.2⟩) n (q.weakB b)
theorem RvAt.len {B F H : Hp} : ∀ {vs : List V} {rs : List Rv} {fp : List Addr}, RvAt G B F H vs rs fp → vs.length = rs.length
  | _, _, _, .nil => rfl
  | _, _, _, .d _ q => congrArg Nat.succ q.len
  | _, _, _, .own _ _ _ q => congrArg Nat.succ q.len
def dRs : List TRd → En → (List Rv → En → Prop) → Prop
  | [], ρ, Q => Q [] ρ
  | t :: ts, ρ, Q => t ρ fun x ρ1 => dRs ts ρ1 fun xs ρ2 => Q (x :: xs) ρ2
def tArgs : List TE → TA
  | [] => tNil
  | t :: ts => tCons t (tArgs ts)
inductive SndRs (G : Gx) : List TE → List TRd → Prop
  | nil : SndRs G [] []
  | cons {u : TE} {us : List TE} {t : TRd} {ts : List TRd} : SndR G u t → SndRs G us ts → SndRs G (u :: us) (t :: ts)
theorem snd_rs : ∀ {us : List TE} {ts : List TRd}, SndRs G us ts → ∀ {B F H : Hp} {ex : List Addr} {σ : St} {ρ : En} {Q : List Rv → En → Prop} {Qh : List V → Hp → Prop}, Sr G B ex F H σ ρ → dRs ts ρ Q →
    (∀ vs H' F' rs fp ρ', Same F F' → Sr G B (fp ++ ex) F' H' σ ρ' → RvAt G B F' H' vs rs fp → (∀ x ∈ ex, x ∉ fp) → Q rs ρ' → Qh vs H') → tArgs us σ H Qh := by
  intro us ts h
  induction h with
  | nil =>
    intro B F H ex σ ρ Q Qh S q k
    exact k [] H F [] [] ρ (Same.refl F) S .nil (fun x _ h => by cases h) q
  | @cons u us t ts a2 r ih =>
    intro B F H ex σ ρ Q Qh S q k
    refine a2 B ex F H σ ρ _ _ S q ?_
    rintro v H1 (⟨F1, x, ρ1, s1, S1, r1, q1⟩ | ⟨F1, p, fp1, o, ρ1, s1, S1, rfl, r1, z1, dj, q1⟩)
    · refine ih S1 q1 ?_
      intro vs H2 F2 rs fp ρ2 s2 S2 r2 dj2 q2
      exact k _ H2 F2 _ fp ρ2 (s1.trans s2) S2 (.d (r1.mono s2) r2) dj2 q2
    · have S1' := S1.pinFp z1
      have keep : ∀ {H2 : Hp}, Same (pinB B H1 fp1) H2 → ∀ x ∈ fp1, H2 x = H1 x := fun {H2} s x hx => by
        cases e : H1 x with
        | none => exact absurd e (r1.there x hx)
        | some u => exact s x u (by unfold pinB; rw [if_pos hx]; exact e)
      refine ih S1' q1 ?_
      intro vs H2 F2 rs fp ρ2 s2 S2 r2 dj2 q2
      have S3 : Sr G B (fp ++ (fp1 ++ ex)) F2 H2 σ ρ2 := S2.weak (same_pin fun x hx => (z1 x hx).2.2) S1.gb (fun _ h => h)
      have S4 : Sr G B ((fp1 ++ fp) ++ ex) F2 H2 σ ρ2 := S3.weak (Same.refl B) S1.gb (fun x hx => by
        simp only [List.mem_append] at hx ⊢
        rcases hx with (h | h) | h
        · exact .inr (.inl h)
        · exact .inl h
        · exact .inr (.inr h))
      have r1' := r1.stay s2 (keep S2.bh)
      have z1' : ∀ x ∈ fp1, F2 x = none ∧ G.H0 x = none ∧ B x = none := fun x hx => ⟨(S2.xf x (by simp [hx])).1, (z1 x hx).2⟩
      refine k _ H2 F2 _ (fp1 ++ fp) ρ2 (s1.trans s2) S4 (.own r1' z1' (fun x hx => dj2 x (by simp [hx])) (r2.weakB fun x hx => (same_pin (H := H1) fun x hx => (z1 x hx).2.2).free hx)) (fun x hx hm => ?_) q2
      rcases List.mem_append.mp hm with h | h
      · exact dj x hx h
      · exact dj2 x (by simp [hx]) h
def putV : St → List Nat → List V → St
  | σ, i :: is, v :: vs => putV (σ.set i (some v)) is vs
  | σ, _, _ => σ
def En.puts : En → List Nat → List Rv → En
  | ρ, i :: is, r :: rs => (ρ.put i r).puts is rs
  | ρ, _, _ => ρ
theorem Sr.puts {B F H : Hp} {ex : List Addr} : ∀ {vs : List V} {rs : List Rv} {fp : List Addr}, RvAt G B F H vs rs fp → ∀ {σ : St} {ρ : En} (is : List Nat), is.length = vs.length → (∀ x ∈ ex, x ∉ fp) → Sr G B (fp ++ ex) F H σ ρ → Sr G B ex F H (putV σ is vs) (ρ.puts is rs)
  | _, _, _, .nil, σ, ρ, [], _, _, S => S
  | _, _, _, .nil, _, _, _ :: _, h, _, _ => by simp at h
  | _, _, _, .d _ _, _, _, [], h, _, _ => by simp at h
  | _, _, _, .own _ _ _ _, _, _, [], h, _, _ => by simp at h
  | _, _, _, .d r q, σ, ρ, i :: is, h, dj, S => Sr.puts q is (by simpa using h) dj (S.set i r)
  | _, _, _, .own (fp1 := fp1) (fp := fp) r z n q, σ, ρ, i :: is, h, dj, S => by
    refine Sr.puts q is (by simpa using h) (fun x hx hm => dj x hx (by simp [hm])) ?_
    have S' : Sr G B (fp1 ++ (fp ++ ex)) F H σ ρ := by rw [← List.append_assoc]; exact S
    refine S'.setO i r z (fun x hx hm => ?_)
    rcases List.mem_append.mp hx with h | h
    · exact n x hm h
    · exact dj x h (by simp [hm])
def dPar3 (i j l : Nat) (ta tb tc : TRd) : TSd := fun D ρ => ta ρ fun x ρ1 => tb ρ1 fun y ρ2 => tc ρ2 fun z ρ3 => D.nx (((ρ3.put i x).put j y).put l z)
theorem ds_par3 (i j l : Nat) {x y z : Str} {ta tb tc : TRd} {px py pz pt : Pos} {kt k2 pt2} (ha : PRd X G a ta) (hb : PRd X G b tb) (hc' : PRd X G c tc) (hc : X.calm = true) (hN : X.N.Nodup) (hij : i ≠ j := by decide) (hil : i ≠ l := by decide) (hjl : j ≠ l := by decide) (hi : X.N[i]? = some x := by rfl) (hj : X.N[j]? = some y := by rfl) (hl : X.N[l]? = some z := by rfl)
    (hx : X.env.scope.names.lookup x = some .local := by rfl) (hy : X.env.scope.names.lookup y = some .local := by rfl) (hz : X.env.scope.names.lookup z = some .local := by rfl)
    (hw : swappedStores [.Tuple [.Name x px, .Name y py, .Name z pz] kt pt] (.Tuple [a, b, c] k2 pt2) X.env = pure (some [x, y, z]) := by rfl)
    (hs : swapsWithSole [.Tuple [.Name x px, .Name y py, .Name z pz] kt pt] (.Tuple [a, b, c] k2 pt2) pos.line X.env = pure false := by rfl)
    (h1 : starEach (a :: [b, c]) X.env = (false, eval a X.env) :: starEach [b, c] X.env := by rfl) (h2 : starEach (b :: [c]) X.env = (false, eval b X.env) :: starEach [c] X.env := by rfl) (h3 : starEach (c :: []) X.env = (false, eval c X.env) :: starEach [] X.env := by rfl) :
    PSd X G (.Assign [.Tuple [.Name x px, .Name y py, .Name z pz] kt pt] (.Tuple [a, b, c] k2 pt2) pos) (dPar3 i j l ta tb tc) := by
  obtain ⟨u, a1, a2⟩ := ha
  obtain ⟨w, b1, b2⟩ := hb
  obtain ⟨r, c1, c2⟩ := hc'
  refine ⟨_, ps_par3 hc hN hi hj hl hij hil hjl hx hy hz (pa_cons a1 (pa_cons b1 (pa_cons c1 pa_nil h3) h2) h1) hw hs, fun B F H σ ρ Dd D' S q k => ?_⟩
  refine snd_rs (us := [u, w, r]) (ts := [ta, tb, tc]) (Q := fun rs ρ2 => match rs with
    | [x, y, z] => Dd.nx (((ρ2.put i x).put j y).put l z)
    | _ => False) (.cons a2 (.cons b2 (.cons c2 .nil))) S q ?_
  · intro vs H' F' rs fp ρ' s S' rr dj q'
    match rs, rr, q' with
    | [x', y', z'], rr, q' =>
      have S2 := Sr.puts rr [i, j, l] (by rw [rr.len]; rfl) dj S'
      match vs, rr.len, S2 with
      | [v1, v2, v3], _, S2 => exact ⟨v1, v2, v3, rfl, k.nx _ _ ⟨F', _, s, S2, q'⟩⟩
end
end DL

/-! text DLv -/
set_option Elab.async false
set_option linter.all false
set_option maxRecDepth 100000
set_option maxHeartbeats 4000000
/-! A call that reads things of one's own, which stay one's own; slices of one's own list. -/
namespace DL
open PySem PySem.Spec PyProof.Rows L2 RZ
def bArg (ρ : En) (i : Nat) : Option D := match ρ.sl[i]? with
  | some (.d x) => some x
  | some (.own o) => if o.still = true then some o.toD else none
  | _ => none
def bArgs (ρ : En) : List Nat → Option (List D)
  | [] => some []
  | i :: is => match bArg ρ i, bArgs ρ is with
    | some x, some xs => some (x :: xs)
    | _, _ => none
def tNames : List Nat → TA
  | [] => tNil
  | i :: is => tCons (tVar i) (tNames is)
def dNames (is : List Nat) : TAd := fun ρ Q => ∃ xs, bArgs ρ is = some xs ∧ Q xs ρ
def SndB (G : Gx) (tu : TA) (tb : TAd) : Prop := ∀ (B : Hp) ex F H σ ρ Q (Qh : List V → Hp → Prop), Sr G B ex F H σ ρ → tb ρ Q → (∀ vs H' F' F2 xs ρ', Same F F' → Sr G B ex F' H' σ ρ' → Same F' F2 → Same F2 H' → AtL G.K F2 vs xs → Q xs ρ' → Qh vs H') → tu σ H Qh
def PBd (X : Cx) (G : Gx) (es : List Expr) (tb : TAd) : Prop := ∃ tu, PA X es tu ∧ SndB G tu tb
section
variable {X : Cx} {G : Gx} {pos : Pos} {a b c e : Expr} {es : List Expr}
theorem over_sub {F F2 H : Hp} {fp : List Addr} (s : Same F F2) (h : Same F2 H) : Same (over F H fp) (over F2 H fp) := fun x o q => by
  by_cases w : x ∈ fp
  · rw [over_in w] at q ⊢; exact q
  · rw [over_out w] at q ⊢; exact s _ _ q
theorem sub_over {F2 H : Hp} {fp : List Addr} (h : Same F2 H) : Same F2 (over F2 H fp) := fun x o q => by
  by_cases w : x ∈ fp
  · rw [over_in w]; exact h _ _ q
  · rw [over_out w]; exact q
theorem over_h {F2 H : Hp} {fp : List Addr} (h : Same F2 H) : Same (over F2 H fp) H := fun x o q => by
  by_cases w : x ∈ fp
  · rw [over_in w] at q; exact q
  · rw [over_out w] at q; exact h _ _ q
theorem names_ok {B F H : Hp} {ex : List Addr} {σ : St} {ρ : En} (S : Sr G B ex F H σ ρ) : ∀ {is : List Nat} {xs : List D}, bArgs ρ is = some xs → ∃ vs F2, Same F F2 ∧ Same F2 H ∧ AtL G.K F2 vs xs ∧ ∀ Qh : List V → Hp → Prop, Qh vs H → tNames is σ H Qh
  | [], xs, h => by
    cases h
    exact ⟨[], F, Same.refl F, S.fh, .nil, fun Qh q => q⟩
  | i :: is, xs, h => by
    unfold bArgs at h
    cases e1 : bArg ρ i with
    | none => rw [e1] at h; cases h
    | some x =>
      cases e2 : bArgs ρ is with
      | none => rw [e1, e2] at h; cases h
      | some ys =>
        rw [e1, e2] at h
        cases h
        obtain ⟨vs, F2, s, fh, r, k⟩ := names_ok S e2
        unfold bArg at e1
        split at e1
        · rename_i y hy
          cases e1
          obtain ⟨ad, h1, _⟩ := S.sl
          obtain ⟨v, e, r1⟩ := h1 i _ hy
          exact ⟨v :: vs, F2, s, fh, .cons (r1.mono s) r, fun Qh q => ⟨v, e, k _ q⟩⟩
        · rename_i o ho
          split at e1
          · rename_i hs
            cases e1
            obtain ⟨a, fp, e, r1, z⟩ := S.ownAt ho
            have at_ : At G.K (over F H fp) (.ref a) o.toD := r1.toAt (fun x hx => (z x hx).1) hs
            exact ⟨.ref a :: vs, over F2 H fp, s.trans (sub_over fh), over_h fh, .cons (at_.mono (over_sub s fh)) (r.mono (sub_over fh)), fun Qh q => ⟨.ref a, e, k _ q⟩⟩
          · cases e1
        · cases e1
theorem db_names {is : List Nat} (h : PA X es (tNames is)) : PBd X G es (dNames is) := by
  refine ⟨_, h, fun B ex F H σ ρ Q Qh S q k => ?_⟩
  obtain ⟨xs, e, q⟩ := q
  obtain ⟨vs, F2, s, fh, r, go⟩ := names_ok S e
  exact go _ (k vs H F F2 xs ρ (Same.refl F) S s fh r q)
theorem db_cons {te : TEd} {t : TAd} (ha : PEd X G e te) (hr : PBd X G es t) (hs : starEach (e :: es) X.env = (false, eval e X.env) :: starEach es X.env := by rfl) : PBd X G (e :: es) (dCons te t) := by
  obtain ⟨u, h1, h2⟩ := ha
  obtain ⟨w, k1, k2⟩ := hr
  refine ⟨_, pa_cons h1 k1 hs, fun B ex F H σ ρ Q Qh S q k => h2 B ex F H σ ρ _ _ S q ?_⟩
  rintro x H1 ⟨F1, dx, ρ1, s1, S1, r1, q1⟩
  refine k2 B ex F1 H1 σ ρ1 _ _ S1 q1 ?_
  intro xs H2 F2 F3 ds ρ2 s2 S2 s3 fh r2 q2
  exact k _ _ F2 F3 _ ρ2 (s1.trans s2) S2 s3 fh (.cons (r1.mono (s2.trans s3)) r2) q2
theorem pn_nil : PA X [] (tNames []) := pa_nil
theorem pn_cons (i : Nat) {x : Str} {p : Pos} {is : List Nat} (h : PA X es (tNames is)) (hN : X.N[i]? = some x := by rfl) (hv : Vis X.env.scope x := by first | exact Or.inl rfl | exact Or.inr (Or.inl rfl) | exact Or.inr (Or.inr rfl)) (hd : (x == ("__debug__" : Str)) = false := by decide)
    (hcd : (x == ("__classdict__" : Str)) = false := by decide) (hs : starEach (.Name x p :: es) X.env = (false, eval (.Name x p) X.env) :: starEach es X.env := by rfl) : PA X (.Name x p :: es) (tNames (i :: is)) := pa_cons (pe_var hN hv hd hcd) h hs
theorem callee2 {K : PySem.W.Frag} {F H : Hp} (fh : Same F H) {vs : List V} {ds : List D} (r : AtL K F vs ds) : Sr ⟨K, F, H, H, []⟩ H [] F H (vs.map some) ⟨ds.map .d, []⟩ := by
  refine ⟨Same.refl F, Same.refl H, fun a h => .inl h, fh, Same.refl H, fun a h => h, by simp [r.length], fun x hx => absurd hx (by simp), rfl, fun k ap o h => absurd (show ([] : List (Addr × List Addr))[k]? = some ap from h) (by simp), fun ap h => absurd (show ap ∈ ([] : List (Addr × List Addr)) from h) (by simp),
    fun j k ap bp h => absurd (show ([] : List (Addr × List Addr))[j]? = some ap from h) (by simp), fun _ => [], fun i s hs => ?_, fun i o hs => ?_, fun i j o u hi => ?_⟩
  · have hs' : (ds.map Sl.d)[i]? = some s := hs
    rw [List.getElem?_map] at hs'
    cases e : ds[i]? with
    | none => rw [e] at hs'; cases hs'
    | some d =>
      rw [e] at hs'
      cases hs'
      obtain ⟨v, hv, q⟩ := r.get e
      exact ⟨v, by rw [List.getElem?_map, hv]; rfl, q⟩
  · simp
  · have hs' : (ds.map Sl.d)[i]? = some (.own o) := hi
    rw [List.getElem?_map] at hs'
    cases e : ds[i]? with
    | none => rw [e] at hs'; cases hs'
    | some d => rw [e] at hs'; cases hs'
def atomD : D → Bool
  | .non => true
  | .bl _ => true
  | .int _ => true
  | .str _ => true
  | _ => false
theorem At.atom {K : PySem.W.Frag} {F F' : Hp} {v : V} {d : D} (r : At K F v d) (h : atomD d = true) : At K F' v d := by
  cases r with
  | non => exact .non
  | bl b => exact .bl b
  | int i => exact .int i
  | str s => exact .str s
  | _ => cases h
def dCallB (g : Gd) (RX : RXd) (t : TAd) : TEd := fun ρ Q => t ρ fun ds ρ1 => g (ds.map .d) [] (fun r _ => ∃ x, r = .d x ∧ atomD x = true ∧ Q x ρ1) (fun x _ => x.idx = none ∧ RX x ρ1)
theorem d_calB {RX : RXd} {k : Nat} {ps : List Str} {g : Gd} {x : Str} {p : Pos} {t : TAd} (c : Cal X.prog X.w X.K X.mg X.base x ps k g) (hr : Room k X.A) (tk : Takes X (wish G RX)) (ha : PBd X G (e :: es) t) (hK : G.K = X.K := by rfl) (hg : Gl X x := by rfl) (hdb : (x == ("__debug__" : Str)) = false := by decide)
    (he : starEach (e :: es) X.env = (false, eval e X.env) :: starEach es X.env := by rfl) (hpl : (backTo pos (starEach es X.env)).any (·.1) = false := by rfl) : PEd X G (.Call (.Name x p) (e :: es) [] pos) (dCallB g RX t) := by
  obtain ⟨f, fd, F, hm, hk, hb⟩ := c.ex
  obtain ⟨tu, h1, h2⟩ := ha
  refine ⟨_, pe_callS F hr hg hm hk hb (fun σ => passAt tk σ) h1 hdb he hpl, fun B ex F H σ ρ Q Qh S q kk => ?_⟩
  refine h2 B ex F H σ ρ _ _ S q ?_
  intro vs H1 F1 F2 ds ρ1 s1 S1 s2 fh r1 q1
  refine ⟨F2, H1, [], ds.map .d, [], fun r _ => ∃ x, r = .d x ∧ atomD x = true ∧ Q x ρ1, fun x _ => x.idx = none ∧ RX x ρ1, ?_, q1, ?_, ?_⟩
  · rw [← hK]
    exact callee2 fh r1
  · rw [← hK]
    rintro v H' ⟨σ', ρ', ⟨F', y, s', S', r', x, e1, hx, q'⟩ | ⟨F', pp, fp, o, s', S', e, r, zz, x, e1, _⟩⟩
    · cases e1
      have hh : Same H1 H' := S'.gb.trans S'.bh
      exact kk _ _ ⟨F1, y, ρ1, s1, S1.grow (Same.refl F1) (fun a h => .inl h) (S1.fh.trans hh) hh, r'.atom hx, q'⟩
    · cases e1
  · rw [← hK]
    rintro cls d σ' H' ⟨B', F', ρ', x, S', ea, ix, q'⟩
    have hh : Same H1 H' := S'.gb.trans S'.bh
    have S2 := S1.grow (Same.refl F1) (fun a h => .inl h) (S1.fh.trans hh) hh
    refine ⟨B, F1, ρ1, x, S2.weak (Same.refl B) S2.gb (fun x hx => absurd hx (by simp)), ?_, q'⟩
    obtain ⟨C, idx⟩ := x
    obtain ⟨ea1, ea2⟩ := ea
    cases ix
    exact ⟨ea1, ea2⟩
/-- a[:e] of one's own list -/
def dSlO (i : Nat) (th : TEd) : TEd := fun ρ Q => match ρ.sl[i]? with
  | some (.own (.lst _)) => th ρ fun y ρ1 => match ρ1.sl[i]?, y with
    | some (.own (.lst l)), .int n => 0 ≤ n ∧ Q (.lst (l.take n.toNat)) ρ1
    | _, _ => False
  | _ => False
theorem d_slO (i : Nat) {x : Str} {p p2 : Pos} {tb : TEd} (hb : PEd X G b tb) (hN : X.N[i]? = some x := by rfl) (hv : Vis X.env.scope x := by first | exact Or.inl rfl | exact Or.inr (Or.inl rfl) | exact Or.inr (Or.inr rfl))
    (hd : (x == ("__debug__" : Str)) = false := by decide) (hcd : (x == ("__classdict__" : Str)) = false := by decide) (hK : G.K = X.K := by rfl) : PEd X G (.Subscript (.Name x p) (.Slice none (some b) none p2) pos) (dSlO i tb) := by
  obtain ⟨tf, b1, b2⟩ := hb
  refine ⟨_, pe_slice sl_list (pe_var (i := i) hN hv hd hcd) po_none (po_some b1), fun B ex F H σ ρ Q Qh S q k => ?_⟩
  unfold dSlO at q
  split at q
  · rename_i l0 e0
    obtain ⟨a, fp, e, r, z⟩ := S.ownAt e0
    refine ⟨_, e, b2 B ex F H σ ρ _ _ S q ?_⟩
    rintro v H1 ⟨F1, d, ρ1, s1, S1, r1, q1⟩
    split at q1
    · rename_i l n e1
      obtain ⟨hn, qd⟩ := q1
      obtain ⟨a', fp', e', r', z'⟩ := S1.ownAt e1
      rw [e] at e'
      cases e'
      cases r1
      obtain ⟨_, vs, hv, rv⟩ := r'
      refine ⟨n, rfl, _, _, rfl, SqL.of hv, fun p hp => ?_⟩
      rw [cut_take hn]
      exact k _ _ ⟨upd F1 p (.lst _), _, ρ1, s1.trans (same_new (S1.ffree hp)), S1.new hp, .lst upd_same ((rv.take _).mono (same_new (S1.ffree hp))), qd⟩
    · exact q1.elim
  · exact q.elim
end
end DL

/-! text DLw -/
set_option Elab.async false
set_option linter.all false
set_option maxRecDepth 100000
set_option maxHeartbeats 4000000
/-! == by an own __eq__; a property of an instance that stands still. -/
namespace DL
open PySem PySem.Spec PyProof.Rows L2 RZ
section
variable {X : Cx} {G : Gx} {pos : Pos} {a b c e : Expr} {es : List Expr} {K : PySem.W.Frag}
def noE : XK := fun _ _ _ => False
theorem cx_noneS {P : Program} (w : World) (out : List Env) (H : Hp) (s : Shared) (e : Value) (s' : Shared) (z : L2.CX P w out H s noE e s') : False := by
  obtain ⟨_, _, _, _, _, _, _, _, _, _, _, _, z⟩ := z
  exact z.elim
theorem passE {P : Program} {w : World} {Y : Cx} : Passes (L2.CX P w) Y noE := fun pins σ H s e s' I z => (cx_noneS w _ H s e s' z).elim
/-- a def of a class, found at the name nm -/
structure MetC (P : Program) (w : World) (K : PySem.W.Frag) (mg : Str → Option Value) (base : Heap) (C : Addr) (nm : Str) (ps : List Str) (k : Nat) (g : Gd) : Prop where
  ex : ∃ f fd, FnD P w K mg base k f fd ps g ∧ PySem.W.findIn K (.ref C) nm = some (some (.ref f)) ∧ PySem.W.isFn K (.ref f) = true ∧ L2.Binds K fd ps []
structure PrpC (P : Program) (w : World) (K : PySem.W.Frag) (mg : Str → Option Value) (base : Heap) (C : Addr) (nm : Str) (k : Nat) (g : Gd) : Prop where
  ex : ∃ f fd p, FnD P w K mg base k f fd ["self"] g ∧ PropOf K C nm p f ∧ Cls K C ∧ L2.Binds K fd ["self"] []
/-- what an own def answers to data alone, told at the heap -/
theorem data_call {g : Gd} {F H : Hp} {vs : List V} {ds : List D} {Q : VK} {R : D → Prop} (fh : Same F H) (r : AtL K F vs ds)
    (q : g (ds.map .d) [] (fun r _ => match r with
      | .d x => R x
      | .own o => o.still = true ∧ R o.toD) noX)
    (kk : ∀ v F' H' d, Grow F H F' H' → At K F' v d → R d → Q v H') : SpD K g vs H Q noE := by
  refine ⟨F, H, [], ds.map .d, [], _, noX, callee2 fh r, q, ?_, ?_⟩
  · rintro v H' ⟨σ', ρ', ⟨F', y, s', S', r', q'⟩ | ⟨F', pp, fp, o, s', S', e, r', zz, q'⟩⟩
    · exact kk v F' H' y ⟨S'.f0, S'.fn, S'.fh, S'.gb.trans S'.bh⟩ r' q'
    · subst e
      have zf : ∀ x ∈ fp, F' x = none := fun x hx => (zz x hx).1
      have at_ := r'.toAt zf q'.1
      refine kk _ (over F' H' fp) H' _ ⟨S'.f0.trans (same_over zf), fun x hx => ?_, over_h S'.fh, S'.gb.trans S'.bh⟩ at_ q'.2
      by_cases w : x ∈ fp
      · exact .inr (zz x w).2.1
      · rw [over_out w] at hx
        exact S'.fn x hx
  · rintro cls d σ' H' ⟨_, _, _, _, _, _, z⟩
    exact z.elim
/-- x == y, x an instance of the class at C -/
def oEqI (K : PySem.W.Frag) (C : Addr) (g : Gd) : R2d := fun x y Q => ∃ fs t, x = .ins C fs ∧ TyD K y t ∧ PySem.W.notFirst K C t = true ∧ g [.d x, .d y] [] (fun r _ => ∃ b, r = .d (.bl b) ∧ Q (.bl b)) noX
def rEqI (K : PySem.W.Frag) (C : Addr) (g : Gd) : R2 := fun x y H Q => ∃ a dx fs t, x = .ref a ∧ H a = some (.ins C dx fs) ∧ TyX K H y t ∧ PySem.W.notFirst K C t = true ∧ SpD K g [x, y] H (fun v H' => ∃ b, v = .bl b ∧ Q v H') noE
theorem op_eqI {k : Nat} {C : Addr} {ps : List Str} {g : Gd} (c : MetC X.prog X.w X.K X.mg X.base C "__eq__" ps k g) (hr : Room k X.A) : OpR X (compareOp .Eq) (rEqI X.K C g) := by
  intro pins s σ H x y u v Q I rx ry hq
  obtain ⟨f, fd, F, hs, hf, hb⟩ := c.ex
  obtain ⟨a, dx, fs, t, rfl, ea, ty, nf, sp⟩ := hq
  cases rx
  obtain ⟨mA, J, _⟩ := ins_get I.hok ea
  obtain ⟨od, J, _⟩ := J.look
  obtain ⟨m, hF⟩ := I.fr
  obtain ⟨P, Z, p, _⟩ := kit_of I ry ty
  show wpAny (model X.prog X.w) X.A (richCompare .Eq (.ref a) v) (EP X pins σ Q) X.xe s
  refine PySem.W.cmp_K (op := .Eq) (tb := t) hr.units0 hF I.ok.mod.kin J (Z.ty _ _ I.kIn p) nf hs hf ?_
  refine wpAny_mono (run_fnS (E := fun _ => noE) F hr hb (fun pins' H1 s1 e s2 I1 z => (cx_noneS X.w _ H1 s1 e s2 z).elim) I (.cons (show RelV (.ref a) (.ref a) from rfl) (.cons ry .nil)) sp) (fun w s' hw => ?_) (fun _ _ z => z)
  obtain ⟨z, H', I', rz, bb, rfl, q⟩ := hw
  cases rz
  exact ⟨.bl bb, H', I', rfl, q⟩
theorem o_eqI {k : Nat} {C : Addr} {ps : List Str} {g : Gd} (c : MetC X.prog X.w X.K X.mg X.base C "__eq__" ps k g) (hr : Room k X.A) (hK : K = X.K := by rfl) : OpRd X K (compareOp .Eq) (oEqI K C g) := by
  subst hK
  refine ⟨_, op_eqI c hr, fun F H x y dx dy Q Qd s r q z kk => ?_⟩
  obtain ⟨fs, t, rfl, ty, nf, z⟩ := z
  have r0 := r
  cases r with
  | @ins a _ dx' fs' gs e1 e2 n rr =>
    refine ⟨a, _, _, t, rfl, s _ _ e1, ty.ty s q, nf, ?_⟩
    refine data_call (R := fun d => ∃ b, d = .bl b ∧ Qd (.bl b)) (ds := [.ins C fs, dy]) s (.cons r0 (.cons q .nil)) ?_ ?_
    · refine (?_ : g [.d (.ins C fs), .d dy] [] _ noX)
      have e : (fun (r : Rv) (_ : List OD) => ∃ b, r = .d (.bl b) ∧ Qd (.bl b)) = (fun (r : Rv) (_ : List OD) => match r with
          | .d x => ∃ b, x = .bl b ∧ Qd (.bl b)
          | .own o => o.still = true ∧ ∃ b, o.toD = .bl b ∧ Qd (.bl b)) := by
        funext r π
        cases r with
        | d x => exact propext ⟨fun ⟨b, e, q⟩ => ⟨b, by cases e; rfl, q⟩, fun ⟨b, e, q⟩ => ⟨b, by rw [e], q⟩⟩
        | own o =>
          refine propext ⟨?_, ?_⟩
          · rintro ⟨b, e, _⟩
            cases e
          · rintro ⟨_, b, e, _⟩
            cases o <;> cases e
      rw [← e]
      exact z
    · rintro v F' H' d gr rv ⟨b, rfl, qd⟩
      cases rv
      exact ⟨b, rfl, kk _ _ _ _ gr (.bl b) qd⟩
/-- == where the left side may be an instance of the class at C -/
def oEqX (K : PySem.W.Frag) (C : Addr) (g : Gd) : R2d := fun x y Q => oEqI K C g x y Q ∨ oEq x y Q
theorem o_eqX {k : Nat} {C : Addr} {ps : List Str} {g : Gd} (c : MetC X.prog X.w X.K X.mg X.base C "__eq__" ps k g) (hr : Room k X.A) (hu : X.A.units + 64 < cLine) (hK : K = X.K := by rfl) : OpRd X K (compareOp .Eq) (oEqX K C g) := (o_eqI c hr hK).or (o_eq hu hK)
/-- e.f, f a property -/
def dProp (C : Addr) (g : Gd) (te : TEd) : TEd := fun ρ Q => te ρ fun x ρ1 => match x with
  | .ins C' fs => C' = C ∧ g [.d (.ins C' fs)] [] (fun r _ => match r with
      | .d x => Q x ρ1
      | .own o => o.still = true ∧ Q o.toD ρ1) noX
  | _ => False
theorem d_prop {k : Nat} {C : Addr} {f : Str} {g : Gd} {te : TEd} (c : PrpC X.prog X.w X.K X.mg X.base C f k g) (hr : Room (k + 1) X.A) (he : PEd X G e te) (hb : attributeBase e f X.env (eval e X.env) = eval e X.env := by rfl) (hK : G.K = X.K := by rfl) : PEd X G (.Attribute e f pos) (dProp C g te) := by
  obtain ⟨fa, fd, p, F, hp, cl, bs⟩ := c.ex
  obtain ⟨u, h1, h2⟩ := he
  refine ⟨_, pe_prop h1 cl hp F hr bs .nil passE hb, fun B ex F H σ ρ Q Qh S q k => h2 B ex F H σ ρ _ _ S q ?_⟩
  rintro x H1 ⟨F1, dx, ρ1, s1, S1, r1, q1⟩
  have r0 := r1
  cases r1 with
  | @ins a _ dd fs gs e1 e2 n rr =>
    obtain ⟨rfl, q1⟩ := q1
    refine ⟨a, _, _, rfl, S1.fh _ _ e1, ?_⟩
    rw [← hK]
    exact data_call (R := fun x => Q x ρ1) S1.fh (.cons r0 .nil) q1 fun v F' H' d gr rv qd => k _ _ ⟨F', d, ρ1, s1.trans gr.f, S1.of_grow gr, rv, qd⟩
  | _ => exact q1.elim
/-! a def of a class, as the text gives it -/
def EDef (K : PySem.W.Frag) (C : Addr) (nm q : Str) (st : Stmt) (ps : List Str) : Prop := ∃ f fd, Fun K nm q st f fd ∧ PySem.W.findIn K (.ref C) nm = some (some (.ref f)) ∧ PySem.W.isFn K (.ref f) = true ∧ L2.Binds K fd ps []
def PDef (K : PySem.W.Frag) (C : Addr) (nm q : Str) (st : Stmt) : Prop := ∃ f fd p, Fun K nm q st f fd ∧ PropOf K C nm p f ∧ Cls K C ∧ L2.Binds K fd ["self"] []
theorem EDef.ok {P : Program} {w : World} {mg : Str → Option Value} {base : Heap} {nm q : Str} {C : Addr} {st : Stmt} {N ps : List Str} {k n : Nat} {g : Gd} (d : EDef K C nm q st ps) (S : FnScope N ps (defScope st))
    (hl : ∀ qs π R RX, g qs π R RX → qs.length = ps.length) (hn : N.length - ps.length = n)
    (hb : ∀ (f : Addr) (cdv : Value) (A : Around) (outer : List Env) (s : Shared) (H : Hp) (E : XK) (F B : Hp) (pa : List (Addr × List Addr)) (RX : Exn → List OD → Prop), Room k (A.deeper (envOfC q (defScope st) s.heap.objs.size f cdv)) →
      Takes (cxOf (L2.CX P w) P w K mg base N q (defScope st) f cdv A outer s H E) (wish ⟨K, F, H, B, pa⟩ (fun x ρ => RX x ρ.pa)) →
      ∃ t, PSsd (cxOf (L2.CX P w) P w K mg base N q (defScope st) f cdv A outer s H E) ⟨K, F, H, B, pa⟩ (defBody st) t ∧
        ∀ qs π R, g qs π R RX → t { nx := fun ρ => R (.d .non) ρ.pa, rt := fun r ρ => R r ρ.pa } ⟨qs ++ List.replicate n .no, π⟩) : MetC P w K mg base C nm ps (k + 1) g := by
  obtain ⟨f, fd, h1, h2, h3, h4⟩ := d
  exact ⟨f, fd, fn_d h1 S hl hn (hb f), h2, h3, h4⟩
theorem PDef.ok {P : Program} {w : World} {mg : Str → Option Value} {base : Heap} {nm q : Str} {C : Addr} {st : Stmt} {N : List Str} {k n : Nat} {g : Gd} (d : PDef K C nm q st) (S : FnScope N ["self"] (defScope st))
    (hl : ∀ qs π R RX, g qs π R RX → qs.length = 1) (hn : N.length - 1 = n)
    (hb : ∀ (f : Addr) (cdv : Value) (A : Around) (outer : List Env) (s : Shared) (H : Hp) (E : XK) (F B : Hp) (pa : List (Addr × List Addr)) (RX : Exn → List OD → Prop), Room k (A.deeper (envOfC q (defScope st) s.heap.objs.size f cdv)) →
      Takes (cxOf (L2.CX P w) P w K mg base N q (defScope st) f cdv A outer s H E) (wish ⟨K, F, H, B, pa⟩ (fun x ρ => RX x ρ.pa)) →
      ∃ t, PSsd (cxOf (L2.CX P w) P w K mg base N q (defScope st) f cdv A outer s H E) ⟨K, F, H, B, pa⟩ (defBody st) t ∧
        ∀ qs π R, g qs π R RX → t { nx := fun ρ => R (.d .non) ρ.pa, rt := fun r ρ => R r ρ.pa } ⟨qs ++ List.replicate n .no, π⟩) : PrpC P w K mg base C nm (k + 1) g := by
  obtain ⟨f, fd, p, h1, h2, h3, h4⟩ := d
  exact ⟨f, fd, p, fn_d h1 S hl hn (hb f), h2, h3, h4⟩
end
end DL

/-! text DLx -/
set_option Elab.async false
set_option linter.all false
set_option maxRecDepth 100000
set_option maxHeartbeats 4000000
/-! An expression that only reads, also things of one's own, and gives an atom: the slots stay as they were. -/
namespace DL
open PySem PySem.Spec PyProof.Rows L2 RZ
def frozS : Sl → Sl
  | .own o => if o.still = true then .d o.toD else .no
  | .par _ => .no
  | s => s
def En.froz (ρ : En) : En := ⟨ρ.sl.map frozS, []⟩
section
variable {X : Cx} {G : Gx} {pos : Pos} {e : Expr}
/-- the state in which nothing may change -/
theorem Sr.froz {B F H : Hp} {ex : List Addr} {σ : St} {ρ : En} (S : Sr G B ex F H σ ρ) : ∃ F2, Same F F2 ∧ Same F2 H ∧ Sr ⟨G.K, F2, H, H, []⟩ H [] F2 H σ ρ.froz := by
  obtain ⟨ad, h1, h2, h3⟩ := S.sl
  let own : Addr → Prop := fun x => ∃ i o, ρ.sl[i]? = some (.own o) ∧ o.still = true ∧ x ∈ ad i
  have own_n : ∀ x, own x → F x = none := fun x ⟨i, o, hi, _, hx⟩ => by
    obtain ⟨a, e, r, z⟩ := h1 i _ hi
    exact (z x hx).1
  let F2 : Hp := fun x => @ite _ (own x) (Classical.propDecidable _) (H x) (F x)
  have f_in : ∀ {x}, own x → F2 x = H x := fun {x} h => if_pos h
  have f_out : ∀ {x}, ¬ own x → F2 x = F x := fun {x} h => if_neg h
  have s1 : Same F F2 := fun x o q => by
    by_cases w : own x
    · rw [own_n x w] at q; cases q
    · rw [f_out w]; exact q
  have s2 : Same F2 H := fun x o q => by
    by_cases w : own x
    · rw [f_in w] at q; exact q
    · rw [f_out w] at q; exact S.fh _ _ q
  refine ⟨F2, s1, s2, Same.refl F2, Same.refl H, fun a h => .inl h, s2, Same.refl H, fun a h => h, ?_, fun x hx => absurd hx (by simp), rfl, fun k ap o h => absurd (show ([] : List (Addr × List Addr))[k]? = some ap from h) (by simp), fun ap h => absurd (show ap ∈ ([] : List (Addr × List Addr)) from h) (by simp),
    fun j k ap bp h => absurd (show ([] : List (Addr × List Addr))[j]? = some ap from h) (by simp), fun _ => [], fun i s hs => ?_, fun i o hs x hx => absurd hx (by simp), fun i j o u hi hj ne x hx => absurd hx (by simp)⟩
  · show (ρ.sl.map frozS).length = σ.length
    rw [List.length_map]; exact S.len
  · have hs' : (ρ.sl.map frozS)[i]? = some s := hs
    rw [List.getElem?_map] at hs'
    cases e : ρ.sl[i]? with
    | none => rw [e] at hs'; cases hs'
    | some s0 =>
      rw [e] at hs'
      have e2 : frozS s0 = s := Option.some.inj hs'
      have w := h1 i s0 e
      cases s0 with
      | no => subst e2; trivial
      | d x =>
        subst e2
        obtain ⟨v, e1, r⟩ := w
        exact ⟨v, e1, r.mono s1⟩
      | own o =>
        by_cases q : o.still = true
        · have e3 : s = .d o.toD := by rw [← e2]; exact if_pos q
          subst e3
          obtain ⟨a, e1, r, z⟩ := w
          have at_ := r.toAt (fun x hx => (z x hx).1) q
          refine ⟨.ref a, e1, at_.mono fun x u hu => ?_⟩
          by_cases m : x ∈ ad i
          · rw [over_in m] at hu
            rw [f_in ⟨i, o, e, q, m⟩]; exact hu
          · rw [over_out m] at hu
            exact s1 _ _ hu
        · have e3 : s = .no := by rw [← e2]; exact if_neg q
          subst e3
          trivial
      | par k => subst e2; trivial
      | pin a => subst e2; exact w
      | xn a dd y =>
        subst e2
        obtain ⟨e1, v1, e2, e3⟩ := w
        exact ⟨e1, v1, s1 _ _ e2, e3.mono s1⟩
theorem Sr.thaw {G' : Gx} {B F F' H H' : Hp} {ex : List Addr} {σ : St} {ρ ρ' : En} (S : Sr G B ex F H σ ρ) (S' : Sr G' H [] F' H' σ ρ') : Sr G B ex F H' σ ρ := S.grow (Same.refl F) (fun a h => .inl h) (S.fh.trans S'.bh) S'.bh
def dBor (te : TEd) : TEd := fun ρ Q => te ρ.froz fun x _ => atomD x = true ∧ Q x ρ
def dBorT (tt : TTd) : TTd := fun ρ Q => tt ρ.froz fun b _ => Q b ρ
theorem d_bor {te : TEd} (h : ∃ we, PE X e we ∧ ∀ F H : Hp, SndE ⟨G.K, F, H, H, []⟩ we te) : PEd X G e (dBor te) := by
  obtain ⟨we, h1, h2⟩ := h
  refine ⟨we, h1, fun B ex F H σ ρ Q Qh S q k => ?_⟩
  obtain ⟨F2, s1, s2, S2⟩ := S.froz
  refine h2 F2 H H [] F2 H σ ρ.froz _ _ S2 q ?_
  rintro v H' ⟨F', x, ρ', s', S', r', hx, q'⟩
  exact k _ _ ⟨F, x, ρ, Same.refl F, S.thaw S', r'.atom hx, q'⟩
theorem d_borF {te : TEd} (h : ∀ F H : Hp, PEd X ⟨G.K, F, H, H, []⟩ e te) : PEd X G e (dBor te) :=
  d_bor ⟨fun σ H Q => ∃ w, PE X e w ∧ w σ H Q, ⟨fun pins s σ H Q I ⟨w, hw, q⟩ => hw.run pins s σ H Q I q⟩, fun F H => by
    obtain ⟨w, h1, h2⟩ := h F H
    exact fun B ex F' H' σ ρ Q Qh S q k => ⟨w, h1, h2 B ex F' H' σ ρ Q Qh S q k⟩⟩
theorem d_borT {tt : TTd} (h : ∃ we, PT X e we ∧ ∀ F H : Hp, SndT ⟨G.K, F, H, H, []⟩ we tt) : PTd X G e (dBorT tt) := by
  obtain ⟨we, h1, h2⟩ := h
  refine ⟨we, h1, fun B ex F H σ ρ Q Qh S q k => ?_⟩
  obtain ⟨F2, s1, s2, S2⟩ := S.froz
  refine h2 F2 H H [] F2 H σ ρ.froz _ _ S2 q ?_
  rintro b H' ⟨F', ρ', s', S', q'⟩
  exact k _ _ ⟨F, ρ, Same.refl F, S.thaw S', q'⟩
theorem d_borTF {tt : TTd} (h : ∀ F H : Hp, PTd X ⟨G.K, F, H, H, []⟩ e tt) : PTd X G e (dBorT tt) :=
  d_borT ⟨fun σ H Q => ∃ w, PT X e w ∧ w σ H Q, ⟨fun pins s σ H Q I ⟨w, hw, q⟩ => hw.run pins s σ H Q I q⟩, fun F H => by
    obtain ⟨w, h1, h2⟩ := h F H
    exact fun B ex F' H' σ ρ Q Qh S q k => ⟨w, h1, h2 B ex F' H' σ ρ Q Qh S q k⟩⟩
end
section
variable {ρ ρ1 : En} {x : D} {te : TEd} {tt : TTd} {b : Bool}
theorem ev_bor (h : Ev te ρ.froz x ρ1) (hx : atomD x = true) : Ev (dBor te) ρ x ρ := fun Q q => h _ ⟨hx, q⟩
theorem evT_bor (h : EvT tt ρ.froz b ρ1) : EvT (dBorT tt) ρ b ρ := fun Q q => h _ q
/-- a comprehension that reads: the target writes the slots of vs alone -/
theorem lc_gen {ti : TId} {g : TGd} {tt : TTd} {te : TEd} {vs : List Nat} {ρ : En} {xs : List D} (p : D → Bool) (f : D → D) (inn : D → En) (hi : ∀ Qi : List D → En → Prop, Qi xs ρ → ti ρ Qi) (hc : calmAt ρ vs) (hl : xs.length ≤ sizeLine)
    (hg : ∀ d ∈ xs, ∀ Q : En → Prop, Q (inn d) → g d (ρ.wipe vs) Q) (hw : ∀ d ∈ xs, (inn d).wipe vs = ρ.wipe vs) (hb : (ρ.wipe vs).back ρ vs = ρ)
    (ht : ∀ d ∈ xs, EvT tt (inn d) (p d) (inn d)) (he : ∀ d ∈ xs, p d = true → Ev te (inn d) (f d) (inn d)) : Ev (dLc ti g tt te vs) ρ (.lst ((xs.filter p).map f)) ρ := by
  intro Q q
  refine hi _ ⟨hc, fun n acc ρ' => ρ' = ρ.wipe vs ∧ acc = ((xs.take n).filter p).map f, ⟨rfl, by simp⟩, ?_, ?_⟩
  · rintro n d acc ρ' hd ⟨rfl, ea⟩
    have hm : d ∈ xs := List.mem_of_getElem? hd
    have hn : n < xs.length := (List.getElem?_eq_some_iff.mp hd).1
    have tk : xs.take (n + 1) = xs.take n ++ [d] := by
      rw [List.take_add_one, hd]
      rfl
    refine hg d hm _ (ht d hm _ ?_)
    by_cases e : p d = true
    · rw [if_pos e]
      refine he d hm e _ ⟨?_, hw d hm, ?_⟩
      · rw [ea, List.length_map]
        have := List.length_filter_le p (xs.take n)
        rw [List.length_take] at this
        omega
      · rw [tk, List.filter_append, List.map_append, ea]
        simp [e]
    · rw [if_neg e]
      refine ⟨hw d hm, ?_⟩
      rw [tk, List.filter_append, List.map_append, ea]
      simp [e]
  · rintro acc ρ' ⟨rfl, ea⟩
    rw [List.take_of_length_le (Nat.le_refl _)] at ea
    rw [ea, hb]
    exact q
end
end DL

/-! text DLy -/
set_option Elab.async false
set_option linter.all false
set_option maxRecDepth 100000
set_option maxHeartbeats 4000000
/-! Errors of own classes whose __init__ takes an index, tells it in the text and keeps it. -/
namespace PySem
namespace DQ
open PySem.W PySem.Calls PyProof.Rows PySem.HandSPX
def exA1 (p p' : Pos) : Arguments := { posonlyargs := [], args := [{ arg := "self", annotation := none, pos := p }, { arg := "index", annotation := none, pos := p' }], vararg := none, kwonlyargs := [], kw_defaults := [], kwarg := none, defaults := [] }
def exJ (m1 m2 : Str) (a1 a2 a3 a4 a5 : Pos) : Expr := .JoinedStr [.Constant (.str m1) 0 a1, .FormattedValue (.Name "index" a2) (-1) none a3, .Constant (.str m2) 0 a4] a5
def exB1 (J : Expr) (p0 p1 p2 p4 p5 b1 b2 b3 b4 : Pos) : List Stmt := [.Expr (.Call (.Attribute (.Call (.Name "super" p0) [] [] p1) "__init__" p2) [J] [] p4) p5, .Assign [.Attribute (.Name "self" b1) "index" b2] (.Name "index" b3) b4]
def exS1 : Scope := { kind := .function, names := [(PySem.Str.ofString "self", .local), (PySem.Str.ofString "index", .local), (PySem.Str.ofString "__class__", .free), (PySem.Str.ofString "super", .globalImplicit)], isGenerator := false, isCoroutine := false, more := [] }
def ErE1 (q : Str) (J : Expr) (p0 p1 p2 p4 : Pos) (fI cda cc : Addr) : Prop := ∀ L : Addr, (∃ pl : Sem Bool, eval (.Call (.Attribute (.Call (.Name "super" p0) [] [] p1) "__init__" p2) [J] [] p4) (ksEnv q exS1 L fI (.ref cda) cc) = (do
      let ov ← attributeBase (.Call (.Name "super" p0) [] [] p1) "__init__" (ksEnv q exS1 L fI (.ref cda) cc) (eval (.Call (.Name "super" p0) [] [] p1) (ksEnv q exS1 L fI (.ref cda) cc))
      standAt p2.atName
      let (f, first) ← holding [ov] (getMethod ov "__init__" pl)
      callWith p4 f first (backTo p4 (starEach [J] (ksEnv q exS1 L fI (.ref cda) cc))) []))
structure ErT1 (prog : Program) (K : Frag) (C : Addr) : Prop where
  cls : ∃ nm qn N bs bm sn sub ab col dd k0 k1 k2 k3 k5, K.lookup C = some (excClassObj nm qn C N bs bm true sn sub ab col dd k0 k1 k2 k3 k5 "ValueError.__new__") ∧ refsVE bm = true
  fn : ∃ fI cc cda q m1 m2 p p' a1 a2 a3 a4 a5 p0 p1 p2 p4 p5 b1 b2 b3 b4 oc od osl kV doc pm an ct, findIn K (.ref C) "__init__" = some (some (.ref fI)) ∧ typeIn K (.ref fI) = some (.type "function") ∧ m1.length ≤ 100 ∧ m2.length ≤ 100 ∧
    K.lookup fI = some ⟨oc, od, .func (ksFn "__init__" q (exA1 p p') (exB1 (exJ m1 m2 a1 a2 a3 a4 a5) p0 p1 p2 p4 p5 b1 b2 b3 b4) exS1 .none kV doc pm an (.ref cda) ct cc), osl⟩ ∧ codeIn K (.ref cda) q = true ∧
    (∃ ccl cdd vs ccs file tf, K.lookup cda = some ⟨ccl, cdd, .fields vs, ccs⟩ ∧ vs[2]? = some (.str file tf) ∧ ((prog.main.file : Str) == file) = true) ∧ (∃ cl cld csl, K.lookup cc = some ⟨cl, cld, .cell (some (.ref C)), csl⟩) ∧ ErE1 q (exJ m1 m2 a1 a2 a3 a4 a5) p0 p1 p2 p4 fI cda cc
  kC : keepIn K (.ref C) = true
  sup : ks_superIn K C C "__init__" = some (some (.builtin "ValueError.__init__"))
  subV : subIn K (.ref C) (.type "ValueError") = some true
  subB : subIn K (.ref C) (.type "BaseException") = some true
  tyC : typeIn K (.ref C) = some (.type "type")
  mro : mroIn K C (.ref C) = some true
  any : nsIn K cStatics "thirdparty.any" = some none
  sa : findIn K (.ref C) "__setattr__" = some (some (.builtin "object.__setattr__"))
  ix : findIn K (.ref C) "index" = some none
  top : (prog.main.scope.names.lookup ("super" : Str)).isSome = false
/-- what may be told as an index -/
def FieldV (v : Value) : Prop := v = .none ∨ ∃ (i : Int) (t : Tok), v = .int i t ∧ i.natAbs.log2 < 1920
section
variable {prog : Program} {w : World} {A : Around} {R : Result → Shared → Prop} {s : Shared} {K : Frag} {mg mb : Str → Option Value} {C : Addr} {E : Value → Shared → Prop}
theorem int_len {i : Int} (h : i.natAbs.log2 < 1920) : (Str.ofString (toString i)).length ≤ 5000 := by
  have e := int_text_length_le (k := 1920) (by decide) h
  rw [ofString_length]; omega
theorem field_of {v : Value} (hv : FieldV v) {Q : Value → Shared → Prop} (h : ∀ (x : Str) (t : Tok) (tk : Nat), x.length ≤ 5000 → Q (.str x t) { s with toks := tk }) : wpAny (model prog w) A (formatField v Str.empty) Q E s := by
  rcases hv with rfl | ⟨i, t, rfl, hd⟩
  · exact wpAny_formatField_none (h _ _ _ (by decide))
  · exact wpAny_formatField_int hd (h _ _ _ (int_len hd))
theorem len_app (a b : Str) : (a ++ b).length = a.length + b.length := PySem.Str.length_append a b
theorem joined_of {env : Env} {m1 m2 : Str} {a1 a2 a3 a4 a5 : Pos} {v : Value} {Q : Value → Shared → Prop} (hv : FieldV v) (h1 : m1.length ≤ 100) (h2 : m2.length ≤ 100)
    (hload : ∀ (tk : Nat) {Q' : Value → Shared → Prop}, Q' v { s with toks := tk } → wpAny (model prog w) A (eval (.Name "index" a2) env) Q' E { s with toks := tk })
    (h : ∀ (x : Str) (t : Tok) (tk : Nat), Q (.str x t) { s with toks := tk }) : wpAny (model prog w) A (eval (exJ m1 m2 a1 a2 a3 a4 a5) env) Q E s := by
  refine wpAny_JoinedStr ?_
  have e0 : evalEach [Expr.Constant (.str m1) 0 a1, .FormattedValue (.Name "index" a2) (-1) none a3, .Constant (.str m2) 0 a4] env = [eval (.Constant (.str m1) 0 a1) env, eval (.FormattedValue (.Name "index" a2) (-1) none a3) env, eval (.Constant (.str m2) 0 a4) env] := by first | rfl | simp [evalEach]
  rw [e0]
  refine Constant_str ⟨m1, _, rfl, ?_, ?_⟩
  · rw [sizeLine_eq, len_app]
    have : Str.empty.length = 0 := rfl
    omega
  refine wpAny_FormattedValue_plain (hload _ (field_of hv fun x t tk hx => ?_))
  refine ⟨x, t, rfl, ?_, ?_⟩
  · rw [sizeLine_eq, len_app, len_app]
    have : Str.empty.length = 0 := rfl
    omega
  refine Constant_str ⟨m2, _, rfl, ?_, ?_⟩
  · rw [sizeLine_eq, len_app, len_app, len_app]
    have : Str.empty.length = 0 := rfl
    omega
  refine ⟨?_, h _ _ _⟩
  rw [sizeLine_eq, len_app, len_app, len_app]
  have : Str.empty.length = 0 := rfl
  omega
theorem er_init1 (T : ErT1 prog K C) {fI : Addr} (iC : findIn K (.ref C) "__init__" = some (some (.ref fI))) {x t0 : Addr} {v : Value} (hfv : FieldV v) (X : K.In s.heap) (hlim : s.heap.NoLimit) (hx : s.heap.get? x = some (excO C t0)) (hxK : ∀ o, K.lookup x ≠ some o) (G : s.heap.Ns mainGlobals mg) (hsup : mg "super" = none) (Bn : s.heap.Ns builtinsNs mb)
    (hbs : mb "super" = some (.type "super")) (hroom : A.depth < recursionLimit)
    (hq : ∀ h' tk t1 dx, (∀ b o, b ≠ x → s.heap.get? b = some o → h'.get? b = some o) → s.heap.objs.size ≤ dx → dx ≠ x → h'.get? x = some { cls := .ref C, dict := some dx, data := .fields #[.ref t1, .none, .none, .none, .bool false, .none] } → h'.Ns1 dx (fun y => if y = "index" then some v else none) → R (.ok (.ret .none)) { s with heap := h', toks := tk }) : codeAny (model prog w) A (.call (.ref fI) ⟨[.ref x, v], []⟩) R s := by
  obtain ⟨fI', cc, cda, q, m1, m2, p, p', a1, a2, a3, a4, a5, p0, p1, p2, p4, p5, b1, b2, b3, b4, oc, od, osl, kV, doc, pm, an, ct, iC', _, l1, l2, ho, hcode0, ⟨ccl, cdd, vs, ccs, file, tf, hcode, hvs, hfile⟩, ⟨cl, cld, csl, hcell⟩, hev⟩ := T.fn
  have ef : fI' = fI := by rw [iC] at iC'; cases iC'; rfl
  subst ef
  obtain ⟨nm, qn, N, bs, bm, sn, sub, ab, col, dd, k0, k1, k2, k3, k5, hC, hbm⟩ := T.cls
  have hcl : clsIn K C = some { name := nm, bases := bs, mro := .ref C :: bm, ns := N, qualname := qn, hasDict := true, slotNames := sn, subclasses := sub, abstract := ab, collection := col, hasDel := false } := by unfold clsIn; rw [hC] <;> rfl
  generalize hJ : exJ m1 m2 a1 a2 a3 a4 a5 = J at *
  refine ks_codeAny_call_defAt (fd := ksFn "__init__" q (exA1 p p') (exB1 J p0 p1 p2 p4 p5 b1 b2 b3 b4) exS1 .none kV doc pm an (.ref cda) ct cc) (body := exB1 J p0 p1 p2 p4 p5 b1 b2 b3 b4) (binds := [("self", .ref x), ("index", v)]) hroom (X _ _ ho) rfl hlim (codeRec_of X hcode0) rfl (BindsTo.of_eq (by first | rfl | with_unfolding_all rfl)) (show ∀ x ∈ exS1.names, x.2 ≠ NameKind.cell by decide)
    (fun y hy => by
      simp only [List.mem_cons, List.not_mem_nil, or_false] at hy
      rcases hy with rfl | rfl <;> rfl) (fun h1 hns k1' => ?_)
  have X1 : K.In h1 := X.keeps k1'
  have hx1 := k1' _ _ hx
  generalize hcd0 : (Code.func _ _) = cdd0
  have nLx : s.heap.objs.size ≠ x := Nat.ne_of_gt (Heap.lt_size hx)
  show _root_.PySem.wpAt (model prog w) (A.deeper (ksEnv q exS1 s.heap.objs.size fI' (.ref cda) cc)) cdd0 (execs (exB1 J p0 p1 p2 p4 p5 b1 b2 b3 b4) (ksEnv q exS1 s.heap.objs.size fI' (.ref cda) cc)) _ _ _
  obtain ⟨pl, hev⟩ := hev s.heap.objs.size
  refine ks_wpAt_execs_cons (ks_wpAt_Expr_any (ks_wpAt_MethodCall (pl := pl) ?_ hev))
  subst hcd0
  refine ks_wpAt_super_base (env := ksEnv q exS1 s.heap.objs.size fI' (.ref cda) cc) rfl rfl (by decide) rfl (X1 _ _ ho) rfl rfl rfl (X1 _ _ hcode) rfl hvs hfile T.top ?_
  refine ks_loadName_global rfl rfl (loadGlobal_builtin (env := ksEnv q exS1 s.heap.objs.size fI' (.ref cda) cc) (G.keeps k1') hsup (Bn.keeps k1') hbs ⟨rfl, ?_⟩)
  refine wpAny_loadName_free rfl rfl rfl ⟨_, X1 _ _ hcell, rfl⟩ ?_
  refine wpAny_loadName_local rfl rfl hns (v := .ref x) (by rfl) ?_
  refine ks_wpAny_isType_cls (X1 _ _ hC) rfl ⟨rfl, ?_⟩
  refine ks_wpAny_call_super (X1 _ _ hC) rfl hx1 rfl (fun c e => by cases e) (looks_mroIn X1 T.mro) (fun h2 hso k2' => ?_)
  have X2 : K.In h2 := X1.keeps k2'
  have hx2 := k2' _ _ hx1
  have hns2 := hns.keeps k2'
  have I2 : InstAt h2 x (excO C t0) C none := ⟨hx2, rfl, rfl, trivial⟩
  have hsup2 : alongIn K "__init__" (((Value.ref C :: bm).dropWhile (· != .ref C)).drop 1) = some (some (.builtin "ValueError.__init__")) := by
    have e := T.sup
    unfold ks_superIn at e
    rw [hcl] at e
    exact e
  refine kxs_getMethod kxs_ValueError hso (looks_opaque X2 T.any) (l₀ := .ref C :: bm) (fun A Q E s k q => wpAny_bind ((looks_clsIn X2 hcl) A _ E s k (wpAny_pure q))) rfl X2 hsup2 (I2.type.andThen (looks_subIn X2 T.subV)) (ks_ne X2 I2 hcl) (by decide) ?_
  have k3 : ∀ b o, h2.get? b = some o → (h2.push (kxs_mw "ValueError.__init__" x)).get? b = some o := fun b o e => Heap.get?_push_of_some _ e
  have hns3 := hns2.keeps k3
  subst hJ
  refine kxs_callWith (i := "ValueError.__init__") (x := x) rfl (evalArgs_plain (spliced_cons ?_))
  refine joined_of (a5 := a5) hfv l1 l2 (fun tk Q' q' => ?_) (fun xt tt tk => spliced_nil ⟨Heap.get?_push_at rfl rfl, ?_⟩)
  · exact wpAny_Name (wpAny_loadName_local rfl rfl hns3 (v := v) (by rfl) q') (by decide)
  generalize hu0 : h2.objs.size = u at *
  have hu : (h2.push (kxs_mw "ValueError.__init__" x)).get? u = some (kxs_mw "ValueError.__init__" x) := by rw [← hu0]; exact Heap.get?_push_at rfl rfl
  have hx3 := k3 _ _ hx2
  have hC3 := X2.keeps k3 _ _ hC
  have X3 : K.In (h2.push (kxs_mw "ValueError.__init__" x)) := X2.keeps k3
  refine wpAny_call (codeAny_of_tree (show wpAny _ _ (callAny (.ref u) ⟨_, []⟩) _ _ _ from ?_))
  simp only [callAny]
  refine wpAny_bind (wpAny_load hu (show wpAny _ _ _ _ _ _ from ?_))
  simp only [kxs_mw, show (Value.type "method-wrapper" == Value.type "method" || Value.type "method-wrapper" == Value.type "builtin_function_or_method" || Value.type "method-wrapper" == Value.type "method-wrapper") = true by decide, if_true]
  refine KFB.if_so (by decide) (wpAny_bind (check_bound_init F.excBase_ValueError.toExcCallFacts hC3 hx3 rfl (wpAny_bind (wpAny_pure (wpAny_pure ⟨plainId_quiet F.excBase_ValueError.init.plain _, codeAny_builtin F.excBase_ValueError.initEntry ?_⟩)))))
  refine exc_init_tree (cls := .ref C) (t0 := t0) (dv := none) (c2 := .none) (c3 := .none) (b4 := .bool false) hx3 (by rw [sizeLine_eq]; show 1 ≤ 16777216; decide) (fun h' k4 e4 _ => ?_)
  have k5 : ∀ b o, b ≠ x → h2.get? b = some o → h'.get? b = some o := fun b o hb e => k4 b o hb (k3 b o e)
  have k6 : ∀ b o, b ≠ x → s.heap.get? b = some o → h'.get? b = some o := fun b o hb e => k5 b o hb (k2' _ _ (k1' _ _ e))
  have X4 : K.In h' := fun b o e => k6 b o (fun hb => hxK o (by rw [← hb]; exact e)) (X _ _ e)
  have hns4 := hns3.at (h' := h') (fun o e => k4 _ o nLx e)
  refine wpAt_of_wpAny (wpAny_execs_cons (plainObj_wpAny_Assign_Attribute ?_))
  refine wpAny_Name (wpAny_loadName_local rfl rfl hns4 (v := v) (by rfl) ?_) (by decide)
  refine wpAny_Name (wpAny_loadName_local rfl rfl hns4 (v := .ref x) (by rfl) ?_) (by decide)
  refine PySem.W.set_plain X4 (ox := excO C _) (od := none) ⟨e4, rfl, rfl, trivial⟩ T.sa ?_
  refine exc_osa X4 e4 hcl (show refsVE (.ref C :: bm) = true from hbm) rfl T.ix (fun h5 tk' dx k dn dne hx5 hn5 => ?_)
  refine wpAny_execs_nil (hq h5 _ _ dx (fun b o hb e => k b o hb (k6 b o hb e)) (Nat.le_trans (Nat.le_of_lt hns4.lt) dn) dne hx5 hn5)
/-- C(v) -/
theorem er_made1 (T : ErT1 prog K C) {v : Value} (hfv : FieldV v) (X : K.In s.heap) (hlim : s.heap.NoLimit) (G : s.heap.Ns mainGlobals mg) (hsup : mg "super" = none) (Bn : s.heap.Ns builtinsNs mb) (hbs : mb "super" = some (.type "super")) (hroom : A.depth + 1 < recursionLimit)
    (hq : ∀ h' tk e t1 dx, (∀ b o, s.heap.get? b = some o → h'.get? b = some o) → s.heap.objs.size ≤ e → s.heap.objs.size ≤ dx → dx ≠ e → h'.get? e = some { cls := .ref C, dict := some dx, data := .fields #[.ref t1, .none, .none, .none, .bool false, .none] } → h'.Ns1 dx (fun y => if y = "index" then some v else none) → R (.ok (.ret (.ref e))) { s with heap := h', toks := tk }) : codeAny (model prog w) A (.call (.ref C) ⟨[v], []⟩) R s := by
  obtain ⟨nm, qn, N, bs, bm, sn, sub, ab, col, dd, k0, k1, k2, k3, k5, hC, hbm⟩ := T.cls
  obtain ⟨fI, _, _, _, _, _, _, _, _, _, _, _, _, _, _, _, _, _, _, _, _, _, _, _, _, _, _, _, _, _, iC, tC, _⟩ := T.fn
  obtain ⟨hp, g, dr, tk, os⟩ := s
  have old : ∀ b o, hp.get? b = some o → ((hp.push (kdv_tup [v])).push (excO C hp.objs.size)).get? b = some o := fun b o e => Heap.get?_push_of_some _ (Heap.get?_push_of_some _ e)
  have new : ((hp.push (kdv_tup [v])).push (excO C hp.objs.size)).get? (hp.objs.size + 1) = some (excO C hp.objs.size) := by heap_get
  have sz : ((hp.push (kdv_tup [v])).push (excO C hp.objs.size)).objs.size = hp.objs.size + 1 + 1 := by simp [Heap.push]
  refine call_own F.excBase_ValueError (fun Y => refsVE_contains Y bm hbm) (X _ _ hC) (looks_findIn X iC) (fun self => bind_fn X self tC) (by rw [sizeLine_eq]; show 1 ≤ 16777216; decide) ?_
  refine er_init1 (s := ⟨(hp.push (kdv_tup [v])).push (excO C hp.objs.size), g, dr, tk, os⟩) T iC hfv (X.keeps old) (hlim.keeps old) new (fun o e => ?_) (G.keeps old) hsup (Bn.keeps old) hbs (by show A.depth + 1 < recursionLimit; exact hroom) (fun h' tk' t1 dx kk hdx hne he hn => ?_)
  · exact absurd (Heap.lt_size (X _ _ e)) (Nat.not_lt_of_le (Nat.le_succ _))
  have hdx' : hp.objs.size + 1 + 1 ≤ dx := by
    have h0 : ((hp.push (kdv_tup [v])).push (excO C hp.objs.size)).objs.size ≤ dx := hdx
    rw [sz] at h0
    exact h0
  exact ⟨rfl, hq h' tk' (hp.objs.size + 1) t1 dx (fun b o e => kk b o (Nat.ne_of_lt (Nat.lt_succ_of_lt (Heap.lt_size e))) (old b o e)) (Nat.le_succ _) (Nat.le_trans (Nat.le_succ_of_le (Nat.le_succ _)) hdx') hne he hn⟩
end
end DQ
end PySem
namespace DL
open PySem PySem.Spec PyProof.Rows L2 RZ
/-- an index that an error may tell -/
def idxD (y : D) : Prop := y = .non ∨ ∃ i : Int, y = .int i ∧ i.natAbs.log2 < 1920
section
variable {X : Cx} {G : Gx} {C : Addr} {x : Str} {p pos pos' : Pos} {RX : RXd} {k : Nat} {e : Expr} {te : TEd}
theorem ns1_at {h h' : Heap} {a : Addr} {m : Str → Option Value} (hn : h.Ns1 a m) (e : ∀ o, h.get? a = some o → h'.get? a = some o) : h'.Ns1 a m := by
  obtain ⟨o, es, ep, ho, hr⟩ := hn
  exact ⟨o, es, ep, e _ ho, hr⟩
/-- C(e), an error of an own class that keeps an index -/
def tMk1 (C : Addr) (te : TE) : St → Hp → XK → Prop := fun σ H Q => te σ H fun y H1 => (y = .non ∨ ∃ i : Int, y = .int i ∧ i.natAbs.log2 < 1920) ∧ ∀ dd, H1 dd = none → Q (.ref C) (some dd) (upd H1 dd (.xd [(("index" : Str), y)]))
theorem pmk_er1 {we : TE} (T : PySem.DQ.ErT1 X.prog X.K C) (hr : Room k X.A) (hm : X.mg x = some (.ref C)) (hsup : X.mg "super" = none) (ha : PE X e we) (hg : Gl X x := by rfl) (hdb : (x == ("__debug__" : Str)) = false := by decide)
    (he : starEach [e] X.env = (false, eval e X.env) :: starEach [] X.env := by rfl) (hpl : (backTo pos (starEach [] X.env)).any (·.1) = false := by rfl) : PMk X (.Call (.Name x p) [e] [] pos) (tMk1 C we) := by
  intro pins s σ H Q I h
  refine wpAny_Call_Name_kw (ld_glob I hg hm ?_ hdb)
  have ha' : PA X [e] (tCons we tNil) := pa_cons ha pa_nil he
  refine PySem.W.callWith_K (h₀ := X.base) I.ok.mod.kin T.kC (thn (ha'.run pos pins s σ H (fun vs H1 => match vs with
    | [y] => (y = .non ∨ ∃ i : Int, y = .int i ∧ i.natAbs.log2 < 1920) ∧ ∀ dd, H1 dd = none → Q (.ref C) (some dd) (upd H1 dd (.xd [(("index" : Str), y)]))
    | _ => False) I h) fun us s1 ⟨vs, H1, I1, r, q⟩ => ⟨I1.kIn, ?_⟩) he hpl
  match vs, r, q with
  | [y], r, ⟨hy, q⟩ =>
      obtain ⟨u, rfl, ru⟩ : ∃ u, us = [u] ∧ RelV y u := by
        cases r with
        | cons ru rn => cases rn; exact ⟨_, rfl, ru⟩
      have hfv : PySem.DQ.FieldV u := by
        rcases hy with rfl | ⟨i, rfl, hd⟩
        · exact .inl ru
        · obtain ⟨t, rfl⟩ := ru
          exact .inr ⟨i, t, rfl, hd⟩
      show wpAny _ _ (call (.ref C) [u]) _ _ _
      obtain ⟨mb, b1, b2⟩ := I1.mod.blt
      have hroom : X.A.depth + 1 < recursionLimit := by have := hr.dp; omega
      refine wpAny_call (PySem.DQ.er_made1 T hfv I1.kIn I1.nolimit (I1.mod.glob.keeps I1.bk) hsup (b1.keeps I1.bk) ((b2 _ (by decide)).trans PyProof.Rows.Boot.«super») hroom (fun h' tk' e t1 dx kk hle hdx hne he hn => ?_))
      obtain ⟨hp, g, dr, tk, os⟩ := s1
      show MkP X pins σ Q (.ref e) ⟨h', g, dr, tk', os⟩
      obtain ⟨G', g1, g2⟩ := restrict h' fun b => decide (b ≠ e)
      have gk : ∀ b, b ≠ e → G'.get? b = h'.get? b := fun b hb => g1 b (decide_eq_true hb)
      have ge : G'.get? e = none := g2 e (by simp)
      have old : ∀ b o, hp.get? b = some o → G'.get? b = some o := fun b o q => (gk b (Nat.ne_of_lt (Nat.lt_of_lt_of_le (Heap.lt_size q) hle))).trans (kk b o q)
      have hnd : H1 dx = none := I1.hok.fresh hdx
      have new : ObjOk X.prog X.w (upd H1 dx (.xd [(("index" : Str), y)])) G' dx (.xd [(("index" : Str), y)]) := by
        refine ⟨_, ns1_at hn (fun o q => (gk dx hne).trans q), fun f => ?_⟩
        by_cases hf : f = "index"
        · subst hf
          rw [if_pos rfl]
          simp [List.lookup]
          exact ru
        · rw [if_neg hf]
          have e : (f == ("index" : Str)) = false := by simpa using hf
          simp [List.lookup, e]
          trivial
      have J : Inv X pins σ (upd H1 dx (.xd [(("index" : Str), y)])) ⟨G', g, dr, tk', os⟩ := I1.laid (t' := tk') old hdx new
      have he' : (upd H1 dx (.xd [(("index" : Str), y)])) e = none := by
        rw [upd_ne (Ne.symm hne)]
        exact I1.hok.fresh hle
      refine ⟨e, _, _, ⟨G', g, dr, tk', os⟩, _, .ref C, some dx, rfl, J, fun b o q => ?_, ge, he, ⟨rfl, rfl⟩, rfl, rfl, he', rfl, I1.bare, raises_own T.subB T.tyC, q dx hnd⟩
      by_cases hb : b = e
      · have q' : G'.get? b = some o := q
        rw [hb, ge] at q'; cases q'
      · exact (gk b hb).symm.trans q
def dRzI (kx : Kx) (nm : String) (RX : RXd) (te : TEd) : TSd := fun D ρ => kx.ex = true ∧ te ρ fun y ρ1 => idxD y ∧ RX ⟨kx.cl nm, some y⟩ ρ1
/-- raise C(e) -/
theorem ds_raise1 {kx : Kx} {nm : String} (hon : kx.ex = true) (T : PySem.DQ.ErT1 X.prog X.K (kx.cl nm)) (hr : Room k X.A) (hm : X.mg x = some (.ref (kx.cl nm))) (hsup : X.mg "super" = none) (hc : X.calm = true) (tk : Takes X (wish G RX)) (ha : PEd X G e te) (hg : Gl X x := by rfl) (hdb : (x == ("__debug__" : Str)) = false := by decide)
    (he : starEach [e] X.env = (false, eval e X.env) :: starEach [] X.env := by rfl) (hpl : (backTo pos (starEach [] X.env)).any (·.1) = false := by rfl) :
    PSd X G (.Raise (some (.Call (.Name x p) [e] [] pos)) none pos') (dRzI kx nm RX te) := by
  obtain ⟨we, h1, h2⟩ := ha
  refine ⟨_, ps_raise hc tk (pmk_er1 T hr hm hsup h1 hg hdb he hpl), fun B F H σ ρ Dd D' S q kk => ?_⟩
  refine h2 B [] F H σ ρ _ _ S q.2 ?_
  rintro v H1 ⟨F1, y, ρ1, s1, S1, r1, hy, q1⟩
  refine ⟨?_, fun dd hd => ?_⟩
  · rcases hy with rfl | ⟨i, rfl, hl⟩
    · cases r1; exact .inl rfl
    · cases r1; exact .inr ⟨i, rfl, hl⟩
  · exact ⟨B, upd F1 dd (.xd _), ρ1, ⟨kx.cl nm, some y⟩, S1.new hd, ⟨rfl, dd, v, rfl, upd_same, r1.mono (same_new (S1.ffree hd))⟩, q1⟩
end
end DL

/-! text DLz -/
set_option Elab.async false
set_option linter.all false
set_option maxRecDepth 100000
set_option maxHeartbeats 4000000
/-! isinstance of a caught error that may keep an index; the index read. -/
namespace PySem.W
open PySem PySem.Spec PySem.Calls PyProof.Rows
section
variable {prog : Program} {w : World} {A : Around} {E : Value → Shared → Prop} {s : Shared} {K : Frag} {x D : Addr} {ox : Obj} {od : Option Obj}
theorem dl_classE {Q : Option Value → Shared → Prop} (hga : findIn K (.ref D) "__getattribute__" = some (some (.builtin "BaseException.__getattribute__"))) (hgt : findIn K (.ref D) "__getattr__" = some none) (hsub : subIn K (.ref D) (.type "BaseException") = some true)
    (hdct : hasDictIn K D = true) (ha : findIn K (.ref D) "__class__" = some (some (.builtin "object.__class__")))
    (hn : specialIn K (.builtin "object.__class__") "__get__" = some (some (.builtin "getset_descriptor.__get__"))) (htk : takesIn K (.builtin "object.__class__") = some true) (hm : mroIn K D (.type "object") = some true)
    (X : K.In s.heap) (I : InstAt s.heap x ox D od) (h : Q (some (.ref D)) { s with toks := s.toks + 1 }) : wpAny (model prog w) A (getAttr? (.ref x) "__class__") Q E s := by
  have hcl : (clsIn K D).isSome = true := by obtain ⟨cd, hc, _⟩ := any_some hdct; rw [hc]; rfl
  have hf : findObj K D od "__class__" = some (.bind (.builtin "getset_descriptor.__get__") (.builtin "object.__class__")) := by
    cases od with
    | none => exact findObj_dataN hcl ha hn htk
    | some o => exact findObj_data hcl ha hn htk
  obtain ⟨hp, g, d, t, os⟩ := s
  have L0 := I.type (M := model prog w)
  have L1 := looks_findIn (M := model prog w) X hga
  have L2 := looks_findIn (M := model prog w) X hgt
  have L3 := looks_find (M := model prog w) X I hf
  have sub : Looks (model prog w) hp (isInstance (.ref x) (.type "BaseException")) true := L0.andThen (looks_subIn X hsub)
  have hx0 : (false && onTheHeap (Value.builtin "BaseException.__getattribute__")) = false := rfl
  have hx2 : (Value.builtin "BaseException.__getattribute__" == Value.builtin "object.__getattribute__") = false := by decide +kernel
  have hx1 : (onTheHeap (Value.ref D) && Value.builtin "BaseException.__getattribute__" == Value.builtin "object.__getattribute__") = false := by rw [hx2]; rfl
  unfold getAttr? getAttrBy? getAttrBy
  refine wpAny_bind (wpAny_mkText (wpAny_bind (wpAny_attempt (wpAny_holding (wpAny_bind (L0.at (wpAny_bind (L1.at ?_))))))))
  show wpAny _ _ (if (onTheHeap (Value.ref D) && Value.builtin "BaseException.__getattribute__" == Value.builtin "object.__getattribute__") = true then _ else _) _ _ _
  rw [hx1, if_neg Bool.false_ne_true]
  unfold getAttrByItsOwn hookBefore
  refine wpAny_bind ?_
  rw [if_pos (show onTheHeap (Value.ref D) = true from rfl)]
  refine L2.at ?_
  refine wpAny_bind (wpAny_attempt (wpAny_holding ?_))
  unfold callGetattribute
  rw [hx0, if_neg Bool.false_ne_true]
  unfold boundAndCalled
  rw [PySem.F.excAttr_ValueError.ga.bind (.ref x)]
  refine wpAny_bind (wpAny_pure ?_)
  show wpAny _ _ (call (.builtin "BaseException.__getattribute__") [.ref x, .str "__class__" t]) _ _ _
  refine wpAny_call (codeAny_call_builtin PySem.F.excAttr_ValueError.ga.plain PySem.F.entry_bexc_ga ?_)
  refine @check_slot (model prog w) _ _ ⟨hp, g, d, t + 1, os⟩ "BaseException.__getattribute__" "BaseException" "__getattribute__" (.ref x) [.str "__class__" t] [] _ (by decide +kernel) (by decide +kernel) sub (PySem.F.args_bexc_ga (.ref x) (.str "__class__" t)) ?_
  unfold Builtin.«object.__getattribute__»
  refine wpAny_bind (wpAny_of_eq (a := ((Value.ref x : Value), [Value.str "__class__" t])) (by first | rfl | (simp only [slotArgs]; rfl)) ?_)
  refine wpAny_bind (wpAny_pure (wpAny_bind (L0.at (wpAny_bind (L3.at ?_)))))
  show wpAny _ _ (holding [Value.builtin "object.__class__"] (call (.builtin "getset_descriptor.__get__") [.builtin "object.__class__", .ref x, .ref D]) >>= ret) _ _ _
  refine wpAny_bind (wpAny_holding (wpAny_call (class_get (s := ⟨hp, g, d, t + 1, os⟩) (ox := ox) (od := od) X I hm ?_)))
  refine wpAny_pure ?_
  show wpAny _ _ (handedOut (.ref D)) _ _ _
  rw [handedOut_of (v := .ref D) rfl]
  first
    | exact wpAny_pure (wpAny_pure h)
    | exact wpAny_pure h
    | exact wpAny_pure (wpAny_bind (wpAny_pure (wpAny_pure h)))
theorem dl_kitx_exc (hga : findIn K (.ref D) "__getattribute__" = some (some (.builtin "BaseException.__getattribute__"))) (hgt : findIn K (.ref D) "__getattr__" = some none) (hsub : subIn K (.ref D) (.type "BaseException") = some true) (hdct : hasDictIn K D = true) (ha : findIn K (.ref D) "__class__" = some (some (.builtin "object.__class__")))
    (hn : specialIn K (.builtin "object.__class__") "__get__" = some (some (.builtin "getset_descriptor.__get__"))) (htk : takesIn K (.builtin "object.__class__") = some true) (hm : mroIn K D (.type "object") = some true) :
    KitX K (.ref x) (.ref D) (fun h => ∃ od, InstAt h x ox D od) where
  ty := fun _ _ _ ⟨_, I⟩ => I.type
  it := fun _ _ X _ => by
    obtain ⟨cdD, hcD, _⟩ := any_some hdct
    unfold clsIn at hcD
    split at hcD
    · rename_i c' d' cd' sl' ho
      intro A' Q' E' s' k q
      unfold isType loadHead
      exact wpAny_bind (wpAny_loadPart (k _ _ (X _ _ ho)) (wpAny_pure q))
    · cases hcD
  ne := fun h tp dd its n sl X htp => by
    obtain ⟨cdD, hcD, _⟩ := any_some hdct
    refine Bool.eq_false_iff.mpr fun q => ?_
    have e : D = tp := Value.ref.inj (beq_iff_eq.mp q)
    subst e
    unfold clsIn at hcD
    split at hcD
    · rename_i c' d' cd' sl' ho
      have z := (X _ _ ho).symm.trans htp
      cases z
    · cases hcD
  ca := fun X ⟨_, I⟩ k => dl_classE hga hgt hsub hdct ha hn htk hm X I k
end
end PySem.W
namespace DL
open PySem PySem.Spec PyProof.Rows L2 RZ
def rIsEx (K : PySem.W.Frag) (D a : Addr) (d : Option Addr) : List V → Hp → VK → Prop := fun xs H Q => ∃ (c : V) (cv : Value) (b : Bool), xs = [.ref a, c] ∧ (∀ u, RelV c u → u = cv) ∧ (∀ dd, d = some dd → ∃ fs, H dd = some (.xd fs)) ∧ PySem.W.kitOne K (.ref D) cv = some b ∧ Q (.bl b) H
theorem call_isEx {X : Cx} {a D : Addr} {d : Option Addr} {oe : Obj} {pn : List (Addr × Obj)} (C : ExcC X.K D) (hz : Zc (.ref D) d oe) (hf : ∃ vs, oe.data = .fields vs) : CallR (X.suite a ((a, oe) :: pn)) (.builtin "isinstance") (rIsEx X.K D a d) := by
  intro pins s σ H xs us Q I r h
  obtain ⟨c, cv, b, rfl, hcv, hd, e, q⟩ := h
  cases r with
  | cons rx rr =>
    cases rr with
    | cons rt rr =>
      cases rr
      cases rx
      have ec := hcv _ rt
      subst ec
      obtain ⟨hget, _⟩ := I.pin (a, oe) (List.mem_append.mpr (.inl List.mem_cons_self))
      obtain ⟨vs, hv⟩ := hf
      have J : ∃ od, PySem.W.InstAt s.heap a oe D od := by
        obtain ⟨oc, od, oda, osl⟩ := oe
        obtain ⟨h1, h2⟩ := hz
        dsimp only at h1 h2 hv
        subst h1 h2 hv
        cases od with
        | none => exact ⟨none, hget, rfl, rfl, trivial⟩
        | some dd =>
          obtain ⟨fs, hx⟩ := hd dd rfl
          obtain ⟨o, ho⟩ := objOk_get (I.hok dd _ hx)
          exact ⟨some o, hget, rfl, rfl, ho⟩
      exact PySem.W.kia_one (PySem.W.dl_kitx_exc C.hg C.hk C.hs C.hd C.ha C.hn C.ht C.hm) I.kIn J e (fun z => nomatch z) fun tk => ⟨.bl b, H, I.kept (t' := tk) fun _ _ z => z, rfl, q⟩
def dIsEx (K : PySem.W.Frag) (i : Nat) (a : Addr) (d : Option Addr) (e : Exn) (c : Value) : TEd := fun ρ Q => ρ.sl[i]? = some (pinSl a d e) ∧ ExcC K e.C ∧ ∃ b, PySem.W.kitOne K (.ref e.C) c = some b ∧ Q (.bl b) ρ
theorem pin_at {G : Gx} {B F H : Hp} {σ : St} {ρ : En} {ex : List Addr} {i : Nat} {a : Addr} {d : Option Addr} {e : Exn} (S : Sr G B ex F H σ ρ) (ok : ExOk d e) (h : ρ.sl[i]? = some (pinSl a d e)) : σ[i]? = some (some (.ref a)) ∧ ∀ dd, d = some dd → ∃ v, F dd = some (.xd [(("index" : Str), v)]) ∧ ∀ y, e.idx = some y → At G.K F v y := by
  obtain ⟨ad, h1, _⟩ := S.sl
  have w := h1 i _ h
  obtain ⟨C, idx⟩ := e
  cases idx with
  | none =>
    have ed : d = none := ok
    subst ed
    exact ⟨w, fun dd h => by cases h⟩
  | some y =>
    obtain ⟨dd, ed⟩ : ∃ dd, d = some dd := ok
    subst ed
    obtain ⟨w1, v, w2, w3⟩ := w
    refine ⟨w1, fun dd' h => ?_⟩
    cases h
    exact ⟨v, w2, fun y' hy => by cases hy; exact w3⟩
theorem d_isEx {X : Cx} {G : Gx} {a : Addr} {oe : Obj} {pn : List (Addr × Obj)} {e : Exn} {d : Option Addr} {c : Expr} {cv : V} {cu : Value} (i : Nat) {n : Str} {p p1 pos : Pos} (hz : Zc (.ref e.C) d oe) (ok : ExOk d e) (hf : ∃ vs, oe.data = .fields vs) (hb : X.mg "isinstance" = none)
    (hC : PE (X.suite a ((a, oe) :: pn)) c (tC cv)) (hcv : ∀ u, RelV cv u → u = cu) (hK : G.K = X.K := by rfl)
    (hN : (X.suite a ((a, oe) :: pn)).N[i]? = some n := by rfl) (hv : Vis (X.suite a ((a, oe) :: pn)).env.scope n := by first | exact Or.inl rfl | exact Or.inr (Or.inl rfl) | exact Or.inr (Or.inr rfl)) (hd : (n == ("__debug__" : Str)) = false := by decide) (hcd : (n == ("__classdict__" : Str)) = false := by decide)
    (hg : Gl (X.suite a ((a, oe) :: pn)) "isinstance" := by rfl)
    (hs : starEach [.Name n p1, c] (X.suite a ((a, oe) :: pn)).env = (false, eval (.Name n p1) (X.suite a ((a, oe) :: pn)).env) :: starEach [c] (X.suite a ((a, oe) :: pn)).env := by rfl)
    (hs2 : starEach [c] (X.suite a ((a, oe) :: pn)).env = (false, eval c (X.suite a ((a, oe) :: pn)).env) :: starEach [] (X.suite a ((a, oe) :: pn)).env := by rfl)
    (hpl : (backTo pos (starEach [c] (X.suite a ((a, oe) :: pn)).env)).any (·.1) = false := by rfl) :
    PEd (X.suite a ((a, oe) :: pn)) G (.Call (.Name "isinstance" p) [.Name n p1, c] [] pos) (dIsEx G.K i a d e cu) := by
  by_cases w : ExcC X.K e.C
  · refine ⟨_, pe_callB (call_isEx w hz hf) hg hb PyProof.Rows.Boot.«isinstance» (pa_cons (pe_var (i := i) hN hv hd hcd) (pa_cons hC pa_nil hs2) hs) (by decide) (by decide) hs hpl, fun B ex F H σ ρ Q Qh S q kk => ?_⟩
    obtain ⟨q1, _, b, q2, q3⟩ := q
    obtain ⟨e1, e2⟩ := pin_at S ok q1
    refine ⟨.ref a, e1, cv, cu, b, rfl, hcv, fun dd h => ?_, by rw [← hK]; exact q2, kk _ _ ⟨F, .bl b, ρ, Same.refl F, S, .bl b, q3⟩⟩
    obtain ⟨v, h1, _⟩ := e2 dd h
    exact ⟨_, S.fh _ _ h1⟩
  · refine ⟨fun _ _ _ => False, ⟨fun _ _ _ _ _ _ h => h.elim⟩, fun B ex F H σ ρ Q Qh S q kk => ?_⟩
    exact absurd (show ExcC X.K e.C by rw [← hK]; exact q.2.1) w
/-- e.index -/
def dXf (K : PySem.W.Frag) (i : Nat) (a : Addr) (d : Option Addr) (e : Exn) : TEd := fun ρ Q => ρ.sl[i]? = some (pinSl a d e) ∧ XfC K e.C ∧ PySem.W.findIn K (.ref e.C) "index" = some none ∧ ∃ y, e.idx = some y ∧ Q y ρ
theorem d_xf {X : Cx} {G : Gx} {a : Addr} {oe : Obj} {pn : List (Addr × Obj)} {e : Exn} {d : Option Addr} (i : Nat) {n : Str} {p pos : Pos} (hz : Zc (.ref e.C) d oe) (ok : ExOk d e) (hf : ∃ vs, oe.data = .fields vs) (hK : G.K = X.K := by rfl)
    (hN : (X.suite a ((a, oe) :: pn)).N[i]? = some n := by rfl) (hv : Vis (X.suite a ((a, oe) :: pn)).env.scope n := by first | exact Or.inl rfl | exact Or.inr (Or.inl rfl) | exact Or.inr (Or.inr rfl)) (hd : (n == ("__debug__" : Str)) = false := by decide) (hcd : (n == ("__classdict__" : Str)) = false := by decide)
    (hb : attributeBase (.Name n p) "index" X.env (eval (.Name n p) X.env) = eval (.Name n p) X.env := by rfl) :
    PEd (X.suite a ((a, oe) :: pn)) G (.Attribute (.Name n p) "index" pos) (dXf G.K i a d e) := by
  by_cases w : XfC X.K e.C ∧ PySem.W.findIn X.K (.ref e.C) "index" = some none
  · refine ⟨_, pe_xf (C := e.C) w.1 w.2 hz hf (pe_var (i := i) hN hv hd hcd) hb, fun B ex F H σ ρ Q Qh S q kk => ?_⟩
    obtain ⟨q1, _, _, y, q2, q3⟩ := q
    obtain ⟨e1, e2⟩ := pin_at S ok q1
    obtain ⟨dd, ed⟩ : ∃ dd, d = some dd := by
      unfold ExOk at ok
      rw [q2] at ok
      exact ok
    obtain ⟨v, h1, h2⟩ := e2 dd ed
    exact ⟨.ref a, e1, rfl, rfl, dd, _, v, ed, S.fh _ _ h1, by simp [List.lookup], kk _ _ ⟨F, y, ρ, Same.refl F, S, h2 y q2, q3⟩⟩
  · refine ⟨fun _ _ _ => False, ⟨fun _ _ _ _ _ _ h => h.elim⟩, fun B ex F H σ ρ Q Qh S q kk => ?_⟩
    exact absurd ⟨by rw [← hK]; exact q.2.1, by rw [← hK]; exact q.2.2.1⟩ w
end DL

/-! text DMa -/
set_option Elab.async false
set_option linter.all false
set_option maxRecDepth 100000
set_option maxHeartbeats 4000000
/-! Objects with lists of their own: attributes stored, read, changed. -/
namespace DL
open PySem PySem.Spec PyProof.Rows L2 RZ
def OD.obj : OD → Option (Addr × List (Str × Fv))
  | .ins C fs => some (C, fs)
  | .insA _ C fs => some (C, fs)
  | _ => none
def OD.wob : OD → List (Str × Fv) → OD
  | .ins C _, fs => .ins C fs
  | .insA a C _, fs => .insA a C fs
  | o, _ => o
def ObjAt (K : PySem.W.Frag) (F H : Hp) (fp : List Addr) (a C : Addr) (fs : List (Str × Fv)) : Prop := ∃ dx ls vs, fp = a :: dx :: ls ∧ a ≠ dx ∧ a ∉ ls ∧ dx ∉ ls ∧ H a = some (.ins C dx vs) ∧ H dx = some (.own a) ∧ vs.map (·.1) = fs.map (·.1) ∧ FvAt K F H ls (vs.map (·.2)) (fs.map (·.2))
theorem OwnAt.obj {K : PySem.W.Frag} {F H : Hp} {fp : List Addr} {a C : Addr} {o : OD} {fs : List (Str × Fv)} (h : OwnAt K F H fp a o) (e : o.obj = some (C, fs)) : ObjAt K F H fp a C fs ∧ ∀ F' H' fp' fs', ObjAt K F' H' fp' a C fs' → OwnAt K F' H' fp' a (o.wob fs') := by
  cases o with
  | ins C' fs' => cases e; exact ⟨h, fun _ _ _ _ w => w⟩
  | insA a0 C' fs' => cases e; exact ⟨h.2, fun _ _ _ _ w => ⟨h.1, w⟩⟩
  | _ => cases e
def setFv (f : Str) (v : Fv) : List (Str × Fv) → List (Str × Fv)
  | [] => [(f, v)]
  | (g, x) :: r => if g = f then (g, v) :: r else (g, x) :: setFv f v r
def FvOne (K : PySem.W.Frag) (F H : Hp) (v : V) : Fv → Option Addr → Prop
  | .d x, q => q = none ∧ At K F v x
  | .l p xs, q => q = some p ∧ v = .ref p ∧ ∃ us, H p = some (.lst us) ∧ AtL K F us xs
theorem FvAt.one {K : PySem.W.Frag} {F H : Hp} {v : V} {fv : Fv} {q : Option Addr} (h1 : FvOne K F H v fv q) {ls : List Addr} {vs : List V} {fs : List Fv} (h : FvAt K F H ls vs fs) (n : ∀ p, q = some p → p ∉ ls) : ∃ ls', FvAt K F H ls' (v :: vs) (fv :: fs) ∧ ∀ x ∈ ls', x ∈ ls ∨ q = some x := by
  cases fv with
  | d x => exact ⟨ls, .d h1.2 h, fun x hx => .inl hx⟩
  | l p xs =>
    obtain ⟨rfl, rfl, us, e, r⟩ := h1
    refine ⟨p :: ls, .l e r (n p rfl) h, fun x hx => ?_⟩
    rcases List.mem_cons.mp hx with w | w
    · exact .inr (by rw [w])
    · exact .inl w
theorem FvAt.setF {K : PySem.W.Frag} {F H : Hp} {f : Str} {v : V} {fv : Fv} {q : Option Addr} (h1 : FvOne K F H v fv q) : ∀ {ls : List Addr} {vs : List (Str × V)} {fs : List (Str × Fv)}, vs.map (·.1) = fs.map (·.1) → FvAt K F H ls (vs.map (·.2)) (fs.map (·.2)) → (∀ p, q = some p → p ∉ ls) →
    (putF f v vs).map (·.1) = (setFv f fv fs).map (·.1) ∧ ∃ ls', FvAt K F H ls' ((putF f v vs).map (·.2)) ((setFv f fv fs).map (·.2)) ∧ ∀ x ∈ ls', x ∈ ls ∨ q = some x
  | ls, [], [], _, h, n => ⟨rfl, FvAt.one h1 h n⟩
  | _, [], _ :: _, h, _, _ => by simp at h
  | _, _ :: _, [], h, _, _ => by simp at h
  | ls, (g, w) :: vs, (g', u) :: fs, hn, hr, n => by
    simp only [List.map_cons, List.cons.injEq] at hn
    obtain ⟨rfl, hn⟩ := hn
    unfold putF setFv
    by_cases e : g = f
    · rw [if_pos e, if_pos e]
      refine ⟨by simp [hn], ?_⟩
      cases hr with
      | d r hr => exact FvAt.one h1 hr n
      | @l ls' p us vs' xs fs' h2 r n2 hr =>
        obtain ⟨l2, a1, a2⟩ := FvAt.one h1 hr (fun p e hm => n p e (List.mem_cons_of_mem _ hm))
        exact ⟨l2, a1, fun x hx => (a2 x hx).elim (fun w => .inl (List.mem_cons_of_mem _ w)) .inr⟩
    · rw [if_neg e, if_neg e]
      cases hr with
      | d r hr =>
        obtain ⟨e1, l2, a1, a2⟩ := FvAt.setF (f := f) h1 hn hr n
        exact ⟨by rw [List.map_cons, List.map_cons, e1], l2, .d r a1, a2⟩
      | @l ls' p us vs' xs fs' h2 r n2 hr =>
        obtain ⟨e1, l2, a1, a2⟩ := FvAt.setF (f := f) h1 hn hr (fun p e hm => n p e (List.mem_cons_of_mem _ hm))
        refine ⟨by rw [List.map_cons, List.map_cons, e1], p :: l2, .l h2 r (fun hm => ?_) a1, fun x hx => ?_⟩
        · rcases a2 p hm with w | w
          · exact n2 w
          · exact n p w (by simp)
        · rcases List.mem_cons.mp hx with w | w
          · exact .inl (by rw [w]; simp)
          · exact (a2 x w).elim (fun w => .inl (List.mem_cons_of_mem _ w)) .inr
/-- a list of an attribute has changed in its place -/
theorem FvAt.upL {K : PySem.W.Frag} {F H : Hp} {f : Str} {p : Addr} {l : List D} : ∀ {ls : List Addr} {vs : List (Str × V)} {fs : List (Str × Fv)}, vs.map (·.1) = fs.map (·.1) → FvAt K F H ls (vs.map (·.2)) (fs.map (·.2)) → fs.lookup f = some (.l p l) →
    vs.lookup f = some (.ref p) ∧ p ∈ ls ∧ (∃ us, H p = some (.lst us) ∧ AtL K F us l) ∧ ∀ us' l', AtL K F us' l' → (setFv f (.l p l') fs).map (·.1) = fs.map (·.1) ∧ FvAt K F (upd H p (.lst us')) ls (vs.map (·.2)) ((setFv f (.l p l') fs).map (·.2))
  | _, [], [], _, _, h => by simp [List.lookup] at h
  | _, [], _ :: _, h, _, _ => by simp at h
  | _, _ :: _, [], h, _, _ => by simp at h
  | ls, (g, w) :: vs, (g', u) :: fs, hn, hr, h => by
    simp only [List.map_cons, List.cons.injEq] at hn
    obtain ⟨rfl, hn⟩ := hn
    unfold List.lookup at h ⊢
    cases e : f == g with
    | true =>
      rw [e] at h
      have h' := Option.some.inj h
      subst h'
      have eg : g = f := (beq_iff_eq.mp e).symm
      cases hr with
      | l e1 r n2 hr =>
        refine ⟨rfl, by simp, ⟨_, e1, r⟩, fun us' l' r' => ?_⟩
        unfold setFv
        rw [if_pos eg]
        exact ⟨rfl, .l upd_same r' n2 (hr.stay (Same.refl F) fun x hx => upd_ne fun w => n2 (by rw [← w]; exact hx))⟩
    | false =>
      rw [e] at h
      have ne : g ≠ f := fun w => by rw [w, beq_self_eq_true] at e; cases e
      dsimp only at h ⊢
      cases hr with
      | d r hr =>
        obtain ⟨a1, a2, a3, a4⟩ := FvAt.upL hn hr h
        refine ⟨a1, a2, a3, fun us' l' r' => ?_⟩
        unfold setFv
        rw [if_neg ne]
        obtain ⟨b1, b2⟩ := a4 us' l' r'
        exact ⟨by rw [List.map_cons, List.map_cons, b1], .d r b2⟩
      | @l ls' p' us vs' xs fs' e1 r n2 hr =>
        obtain ⟨a1, a2, a3, a4⟩ := FvAt.upL hn hr h
        have np : p' ≠ p := fun w => n2 (by rw [w]; exact a2)
        refine ⟨a1, List.mem_cons_of_mem _ a2, a3, fun us' l' r' => ?_⟩
        unfold setFv
        rw [if_neg ne]
        obtain ⟨b1, b2⟩ := a4 us' l' r'
        exact ⟨by rw [List.map_cons, List.map_cons, b1], .l (by rw [upd_ne np]; exact e1) r n2 b2⟩
/-! ### an attribute that is a list -/
def En.attr (ρ : En) (j : Nat) (f : Str) : Option (Addr × Addr × List D) := match ρ.thing j with
  | some o => match o.obj with
    | some (C, fs) => match fs.lookup f with
      | some (.l p l) => some (C, p, l)
      | _ => none
    | none => none
  | none => none
def En.attw (ρ : En) (j : Nat) (f : Str) (p : Addr) (l : List D) : En := match ρ.thing j with
  | some o => match o.obj with
    | some (_, fs) => ρ.chg j (o.wob (setFv f (.l p l) fs))
    | none => ρ
  | none => ρ
section
variable {G : Gx} {B F H F' H' : Hp} {σ : St} {ρ : En} {ex fp fpn xp : List Addr} {j : Nat} {o : OD} {C p : Addr} {f : Str} {l : List D}
theorem Sr.attr (S : Sr G B ex F H σ ρ) (h : ρ.attr j f = some (C, p, l)) : ∃ a dx vs us, σ[j]? = some (some (.ref a)) ∧ H a = some (.ins C dx vs) ∧ vs.lookup f = some (.ref p) ∧ H p = some (.lst us) ∧ AtL G.K F us l ∧ ∀ us' l', AtL G.K F us' l' → Sr G B ex F (upd H p (.lst us')) σ (ρ.attw j f p l') := by
  unfold En.attr at h
  unfold En.attw
  cases e0 : ρ.thing j with
  | none => rw [e0] at h; cases h
  | some o =>
    rw [e0] at h
    dsimp only at h ⊢
    cases e1 : o.obj with
    | none => rw [e1] at h; cases h
    | some Cf =>
      obtain ⟨C', fs⟩ := Cf
      rw [e1] at h
      dsimp only at h ⊢
      split at h
      · rename_i p' l' e2
        cases h
        obtain ⟨a, fp, e, r, z, bk⟩ := S.thing e0
        obtain ⟨⟨dx, ls, vs, efp, n1, n2, n3, ha, hx, hn, rv⟩, back⟩ := r.obj e1
        obtain ⟨a1, a2, ⟨us, a3, a4⟩, a5⟩ := FvAt.upL hn rv e2
        refine ⟨a, dx, vs, us, e, ha, a1, a3, a4, fun us' l' r' => ?_⟩
        have pm : p ∈ fp := by rw [efp]; simp [a2]
        obtain ⟨b1, b2⟩ := a5 us' l' r'
        have w := bk F (upd H p (.lst us')) (o.wob (setFv f (.l p l') fs)) [] (.put S (z p pm).1 (by rw [a3]; simp) pm) (back _ _ _ _ ⟨dx, ls, vs, efp, n1, n2, n3, ?_, ?_, by rw [b1]; exact hn, b2⟩)
        · simpa using w
        · rw [upd_ne (fun w => n2 (by rw [w]; exact a2))]; exact ha
        · rw [upd_ne (fun w => n3 (by rw [w]; exact a2))]; exact hx
      · cases h
/-- a thing of a slot's own has changed; it may now hold what no slot owned -/
theorem Sr.ownG (S : Sr G B (xp ++ ex) F H σ ρ) (hi : ρ.sl[j]? = some (.own o)) (zx : ∀ x ∈ xp, F x = none ∧ G.H0 x = none ∧ B x = none) (dj : ∀ x ∈ ex, x ∉ xp) : ∃ a fp, σ[j]? = some (some (.ref a)) ∧ OwnAt G.K F H fp a o ∧ (∀ x ∈ fp, F x = none ∧ G.H0 x = none ∧ B x = none) ∧ (∀ x ∈ fp, x ∉ xp) ∧
    ∀ H' on fp2, (∀ x, x ∉ fp → H' x = H x) → (∀ x ∈ fp, H' x ≠ none) → OwnAt G.K F H' fp2 a on → (∀ x ∈ fp2, x ∈ fp ∨ x ∈ xp) → Sr G B ex F H' σ ⟨ρ.sl.set j (.own on), ρ.pa⟩ := by
  obtain ⟨ad, h1, h2, h3⟩ := S.sl
  obtain ⟨a, e, r, z⟩ := h1 j _ hi
  refine ⟨a, ad j, e, r, z, fun x hx hm => h2 j o hi x hx (List.mem_append_left _ hm), fun H' on fp2 k1 k2 r2 sub => ?_⟩
  have lt : j < ρ.sl.length := (List.getElem?_eq_some_iff.mp hi).1
  have zz : ∀ x ∈ fp2, F x = none ∧ G.H0 x = none ∧ B x = none := fun x hx => (sub x hx).elim (z x) (zx x)
  have go : ∀ {l : Nat} {w : OD}, (ρ.sl.set j (Sl.own on))[l]? = some (.own w) → l = j ∨ (l ≠ j ∧ ρ.sl[l]? = some (.own w)) := fun {l w} hs' => by
    by_cases q : l = j
    · exact .inl q
    · rw [List.getElem?_set_ne (Ne.symm q)] at hs'
      exact .inr ⟨q, hs'⟩
  have keep : ∀ {x}, (F x ≠ none ∨ B x ≠ none ∨ G.H0 x ≠ none) → H' x = H x := fun {x} h => k1 x fun hm => by
    obtain ⟨z1, z2, z3⟩ := z x hm
    rcases h with h | h | h
    · exact h z1
    · exact h z3
    · exact h z2
  refine ⟨S.f0, S.gb, S.fn, fun b w e => ?_, fun b w e => ?_, fun b hb => ?_, by simp [S.len], fun x hx => ⟨(S.xf x (List.mem_append_right _ hx)).1, ?_⟩, S.pl, fun k ap ob q1 q2 => (S.par k ap ob q1 q2).stay (Same.refl F) fun x hx => ?_, S.pf, S.pd, fun i => if i = j then fp2 else ad i, fun i s hs => ?_, fun i o' hs x hx hm => ?_, fun i k o' u' hj hk ne x hx hm => ?_⟩
  · rw [keep (.inl (by rw [e]; simp))]; exact S.fh _ _ e
  · rw [keep (.inr (.inl (by rw [e]; simp)))]; exact S.bh _ _ e
  · by_cases q : b ∈ ad j
    · exact absurd hb (k2 b q)
    · rw [k1 b q] at hb; exact S.dom b hb
  · rw [k1 x (fun w => h2 j o hi x w (List.mem_append_right _ hx))]
    exact (S.xf x (List.mem_append_right _ hx)).2
  · exact keep (.inr (.inr (S.pf ap (List.mem_of_getElem? q1) x hx).2.2))
  · have hs' : (ρ.sl.set j (.own on))[i]? = some s := hs
    by_cases q : i = j
    · subst q
      rw [List.getElem?_set_self lt] at hs'
      cases hs'
      dsimp only
      rw [if_pos rfl]
      exact ⟨a, e, r2, zz⟩
    · rw [List.getElem?_set_ne (Ne.symm q)] at hs'
      dsimp only
      rw [if_neg q]
      have w := h1 i s hs'
      cases s with
      | no => trivial
      | d x => exact w
      | own ob =>
        obtain ⟨a', e', r', z'⟩ := w
        exact ⟨a', e', r'.stay (Same.refl F) fun x hx => k1 x fun hm => h3 i j ob o hs' hi q x hx hm, z'⟩
      | par k => exact w
      | pin a => exact w
      | xn a dd y => exact w
  · dsimp only at hx
    rcases go hs with q | ⟨q, w⟩
    · rw [if_pos q] at hx
      rcases sub x hx with hx | hx
      · exact h2 j o hi x hx (List.mem_append_right _ hm)
      · exact dj x hm hx
    · rw [if_neg q] at hx
      exact h2 i o' w x hx (List.mem_append_right _ hm)
  · dsimp only at hx hm
    rcases go hj with q | ⟨q, w⟩
    · rw [if_pos q] at hx
      rcases go hk with q' | ⟨q', w'⟩
      · exact ne (q.trans q'.symm)
      · rw [if_neg q'] at hm
        rcases sub x hx with hx | hx
        · exact h3 j k o u' hi w' (Ne.symm q') x hx hm
        · exact h2 k u' w' x hm (List.mem_append_left _ hx)
    · rw [if_neg q] at hx
      rcases go hk with q' | ⟨q', w'⟩
      · rw [if_pos q'] at hm
        rcases sub x hm with hm | hm
        · exact h3 i j o' o w hi q x hx hm
        · exact h2 i o' w x hx (List.mem_append_left _ hm)
      · rw [if_neg q'] at hm
        exact h3 i k o' u' w w' ne x hx hm
end
section
variable {X : Cx} {G : Gx} {f x : Str} {p pos pos' : Pos} {a b e : Expr} {ta tb te : TEd} {to : TOd}
theorem putF_len {f : Str} {v : V} : ∀ {vs : List (Str × V)}, (putF f v vs).length ≤ vs.length + 1
  | [] => Nat.le_refl _
  | (g, x) :: r => by
    unfold putF
    split
    · simp
    · simp only [List.length_cons]
      have := putF_len (f := f) (v := v) (vs := r)
      omega
theorem len_of_names {vs : List (Str × V)} {fs : List (Str × Fv)} (hn : vs.map (·.1) = fs.map (·.1)) : vs.length = fs.length := by
  have := congrArg List.length hn
  rwa [List.length_map, List.length_map] at this
/-- o.f = a datum, o of one's own -/
def dFldG (K : PySem.W.Frag) (j : Nat) (te : TEd) (f : Str) : TSd := fun D ρ => te ρ fun d ρ1 => match ρ1.sl[j]? with
  | some (.own o) => ∃ C fs, o.obj = some (C, fs) ∧ Cls K C ∧ NoAttr K C f ∧ fs.length < 1000 ∧ D.nx ⟨ρ1.sl.set j (.own (o.wob (setFv f (.d d) fs))), ρ1.pa⟩
  | _ => False
theorem ds_fldG (j : Nat) (he : PEd X G e te) (hK : G.K = X.K := by rfl) (hN : X.N[j]? = some x := by rfl) (hv : Vis X.env.scope x := by first | exact Or.inl rfl | exact Or.inr (Or.inl rfl) | exact Or.inr (Or.inr rfl)) (hd : (x == ("__debug__" : Str)) = false := by decide) (hcd : (x == ("__classdict__" : Str)) = false := by decide)
    (hs : swapsWith e (some (.Attribute (.Name x p) f pos')) pos.line X.env = pure false := by rfl) : PSd X G (.Assign [.Attribute (.Name x p) f pos'] e pos) (dFldG G.K j te f) := by
  obtain ⟨u, b1, b2⟩ := he
  refine ⟨_, ps_fld (pe_var (i := j) hN hv hd hcd) b1 hs, fun B F H σ ρ Dd D' S q k => b2 B [] F H σ ρ _ _ S q ?_⟩
  rintro v H1 ⟨F1, d, ρ1, s1, S1, r1, q1⟩
  split at q1
  · rename_i o e1
    obtain ⟨C, fs, eo, c, na, hl, q2⟩ := q1
    obtain ⟨a, fp, e, r, z, nx, bk⟩ := Sr.ownG (xp := []) (ex := []) S1 e1 (fun x hx => absurd hx (by simp)) (fun x hx => absurd hx (by simp))
    obtain ⟨⟨dx, ls, vs, efp, n1, n2, n3, ha, hx, hn, rv⟩, back⟩ := r.obj eo
    refine ⟨_, e, a, C, dx, vs, rfl, ha, by rw [← hK]; exact c, by rw [← hK]; exact na, by rw [len_of_names hn]; exact hl, k.nx _ _ ⟨F1, _, s1, ?_, q2⟩⟩
    have st := rv.stay (Same.refl F1) (H' := upd H1 a (.ins C dx (putF f v vs))) fun x hx => upd_ne (fun w => n2 (by rw [← w]; exact hx))
    obtain ⟨m1, ls', m2, m3⟩ := FvAt.setF (f := f) (q := none) (v := v) (fv := .d d) ⟨rfl, r1⟩ hn st (fun p h => by cases h)
    have sub : ∀ x ∈ ls', x ∈ ls := fun x hx => (m3 x hx).elim id (fun w => by cases w)
    have am : a ∈ fp := by rw [efp]; simp
    refine bk _ (o.wob (setFv f (.d d) fs)) (a :: dx :: ls') (fun x hx => upd_ne fun w => hx (by rw [w]; exact am)) (fun x hx => ?_) (back _ _ _ _ ⟨dx, ls', _, rfl, n1, fun h => n2 (sub _ h), fun h => n3 (sub _ h), upd_same, by rw [upd_ne n1.symm]; exact hx, m1, m2⟩) fun x hx => .inl ?_
    · by_cases q : x = a
      · rw [q, upd_same]; simp
      · rw [upd_ne q]; exact r.there x hx
    · rw [efp]
      rcases List.mem_cons.mp hx with w | w
      · simp [w]
      · rcases List.mem_cons.mp w with w | w
        · simp [w]
        · simp [sub x w]
  · exact q1.elim
/-- o.f = a list of one's own -/
def dFldO (K : PySem.W.Frag) (j : Nat) (te : TOd) (f : Str) : TSd := fun D ρ => te ρ fun u ρ1 => match u, ρ1.sl[j]? with
  | .lst l, some (.own o) => ∃ C fs, o.obj = some (C, fs) ∧ Cls K C ∧ NoAttr K C f ∧ fs.length < 1000 ∧ ∀ p, D.nx ⟨ρ1.sl.set j (.own (o.wob (setFv f (.l p l) fs))), ρ1.pa⟩
  | _, _ => False
theorem ds_fldO (j : Nat) (he : POd X G e to) (hK : G.K = X.K := by rfl) (hN : X.N[j]? = some x := by rfl) (hv : Vis X.env.scope x := by first | exact Or.inl rfl | exact Or.inr (Or.inl rfl) | exact Or.inr (Or.inr rfl)) (hd : (x == ("__debug__" : Str)) = false := by decide) (hcd : (x == ("__classdict__" : Str)) = false := by decide)
    (hs : swapsWith e (some (.Attribute (.Name x p) f pos')) pos.line X.env = pure false := by rfl) : PSd X G (.Assign [.Attribute (.Name x p) f pos'] e pos) (dFldO G.K j to f) := by
  obtain ⟨u, b1, b2⟩ := he
  refine ⟨_, ps_fld (pe_var (i := j) hN hv hd hcd) b1 hs, fun B F H σ ρ Dd D' S q k => b2 B [] F H σ ρ _ _ S q ?_⟩
  rintro v H1 ⟨F1, pp, xp, o1, ρ1, s1, S1, rfl, r1, z1, dj, q1⟩
  split at q1
  · rename_i l o e1
    obtain ⟨C, fs, eo, c, na, hl, q2⟩ := q1
    obtain ⟨a, fp, e, r, z, nx, bk⟩ := Sr.ownG (xp := xp) (ex := []) S1 e1 z1 dj
    obtain ⟨⟨dx, ls, vs, efp, n1, n2, n3, ha, hx, hn, rv⟩, back⟩ := r.obj eo
    obtain ⟨exp, us, hp, rl⟩ := r1
    have pn : ∀ x ∈ fp, x ≠ pp := fun x hx w => nx x hx (by rw [exp, w]; simp)
    refine ⟨_, e, a, C, dx, vs, rfl, ha, by rw [← hK]; exact c, by rw [← hK]; exact na, by rw [len_of_names hn]; exact hl, k.nx _ _ ⟨F1, _, s1, ?_, q2 pp⟩⟩
    have am : a ∈ fp := by rw [efp]; simp
    have dm : dx ∈ fp := by rw [efp]; simp
    have st := rv.stay (Same.refl F1) (H' := upd H1 a (.ins C dx (putF f (.ref pp) vs))) fun x hx => upd_ne (fun w => n2 (by rw [← w]; exact hx))
    obtain ⟨m1, ls', m2, m3⟩ := FvAt.setF (f := f) (q := some pp) (v := .ref pp) (fv := .l pp l) ⟨rfl, rfl, us, by rw [upd_ne (fun w => pn a am w.symm)]; exact hp, rl⟩ hn st (fun p h hm => by cases h; exact pn pp (by rw [efp]; simp [hm]) rfl)
    refine bk _ (o.wob (setFv f (.l pp l) fs)) (a :: dx :: ls') (fun x hx => upd_ne fun w => hx (by rw [w]; exact am)) (fun x hx => ?_) (back _ _ _ _ ⟨dx, ls', _, rfl, n1, fun h => ?_, fun h => ?_, upd_same, by rw [upd_ne n1.symm]; exact hx, m1, m2⟩) fun x hx => ?_
    · by_cases q : x = a
      · rw [q, upd_same]; simp
      · rw [upd_ne q]; exact r.there x hx
    · rcases m3 a h with w | w
      · exact n2 w
      · cases w; exact pn _ am rfl
    · rcases m3 dx h with w | w
      · exact n3 w
      · cases w; exact pn _ dm rfl
    · rw [efp]
      rcases List.mem_cons.mp hx with w | w
      · exact .inl (by simp [w])
      · rcases List.mem_cons.mp w with w | w
        · exact .inl (by simp [w])
        · rcases m3 x w with w | w
          · exact .inl (by simp [w])
          · cases w; exact .inr (by rw [exp]; simp)
  · exact q1.elim
/-- o.f[i], o.f a list of the object's own -/
def dIxA (K : PySem.W.Frag) (j : Nat) (f : Str) (tb : TEd) : TEd := fun ρ Q => ∃ C p l, ρ.attr j f = some (C, p, l) ∧ Cls K C ∧ NoAttr K C f ∧ tb ρ fun y ρ1 => ∃ l1 m v, ρ1.attr j f = some (C, p, l1) ∧ y = .int m ∧ atD l1 m = some v ∧ Q v ρ1
theorem d_ixA (j : Nat) (hb : PEd X G b tb) (hN : X.N[j]? = some x := by rfl) (hv : Vis X.env.scope x := by first | exact Or.inl rfl | exact Or.inr (Or.inl rfl) | exact Or.inr (Or.inr rfl)) (hs : PlainIx b := by exact fun _ _ => rfl)
    (hd : (x == ("__debug__" : Str)) = false := by decide) (hcd : (x == ("__classdict__" : Str)) = false := by decide) (hab : attributeBase (.Name x p) f X.env (eval (.Name x p) X.env) = eval (.Name x p) X.env := by rfl) (hK : G.K = X.K := by rfl) : PEd X G (.Subscript (.Attribute (.Name x p) f pos') b pos) (dIxA G.K j f tb) := by
  obtain ⟨tf, b1, b2⟩ := hb
  refine ⟨_, pe_ix ix_list (pe_fld (pe_var (i := j) hN hv hd hcd) hab) b1 hs, fun B ex F H σ ρ Q Qh S q k => ?_⟩
  obtain ⟨C, pp, l, e0, c, na, q⟩ := q
  obtain ⟨a, dx, vs, us, e, ha, hl, _⟩ := S.attr e0
  refine ⟨_, e, a, C, dx, vs, _, rfl, ha, by rw [← hK]; exact c, by rw [← hK]; exact na, hl, b2 B ex F H σ ρ _ _ S q ?_⟩
  rintro v H1 ⟨F1, d, ρ1, s1, S1, r1, l1, m, w, e1, rfl, hw, qd⟩
  obtain ⟨a', dx', vs', us', e', ha', hl', hp', rv, _⟩ := S1.attr e1
  cases r1
  obtain ⟨j', h1, h2⟩ := at_len rv.length hw
  obtain ⟨u, hu, ru⟩ := rv.get h2
  exact ⟨_, _, _, u, rfl, rfl, SqL.of hp', by unfold atI; rw [h1]; exact hu, k _ _ ⟨F1, w, ρ1, s1, S1, ru, qd⟩⟩
/-- len(o.f) -/
def dLenA (K : PySem.W.Frag) (j : Nat) (f : Str) : TEd := fun ρ Q => ∃ C p l, ρ.attr j f = some (C, p, l) ∧ Cls K C ∧ NoAttr K C f ∧ Q (.int l.length) ρ
/-- o.f.append(e) -/
def dAppA (K : PySem.W.Frag) (j : Nat) (f : Str) (te : TEd) : TSd := fun D ρ => ∃ C p l, ρ.attr j f = some (C, p, l) ∧ Cls K C ∧ NoAttr K C f ∧ te ρ fun x ρ1 => ∃ l1, ρ1.attr j f = some (C, p, l1) ∧ l1.length < sizeLine ∧ D.nx (ρ1.attw j f p (l1 ++ [x]))
theorem ds_appA (j : Nat) {apos cpos : Pos} (he : PEd X G e te) (hK : G.K = X.K := by rfl) (hN : X.N[j]? = some x := by rfl) (hv : Vis X.env.scope x := by first | exact Or.inl rfl | exact Or.inr (Or.inl rfl) | exact Or.inr (Or.inr rfl))
    (hd : (x == ("__debug__" : Str)) = false := by decide) (hcd : (x == ("__classdict__" : Str)) = false := by decide) (hab : attributeBase (.Name x p) f X.env (eval (.Name x p) X.env) = eval (.Name x p) X.env := by rfl)
    (hbase : attributeBase (.Attribute (.Name x p) f pos') "append" X.env (eval (.Attribute (.Name x p) f pos') X.env) = eval (.Attribute (.Name x p) f pos') X.env := by rfl)
    (hfew : ((backTo cpos (starEach [e] X.env)).all (fun x => !x.1) && (backToKw cpos (keywordEach [] X.env)).all (fun x => x.1.isSome) && decide (([e] : List Expr).length + ([] : List Keyword).length + (if ([] : List Keyword).isEmpty then 0 else 1) < 30)) = true := by rfl)
    (hline : (apos.endLine == cpos.line) = true := by rfl) (hs : starEach [e] X.env = (false, eval e X.env) :: starEach [] X.env := by rfl) (hplain : (backTo cpos (starEach [] X.env)).any (·.1) = false := by rfl)
    (hsw : swapsWith (.Call (.Attribute (.Attribute (.Name x p) f pos') "append" apos) [e] [] cpos) none pos.line X.env = pure false := by rfl) : PSd X G (.Expr (.Call (.Attribute (.Attribute (.Name x p) f pos') "append" apos) [e] [] cpos) pos) (dAppA G.K j f te) := by
  obtain ⟨w, a1, a2⟩ := he
  refine ⟨_, ps_expr (pe_bm PySem.F.plainAttrs_list PySem.F.slot_list_append PySem.F.type_list_append mt_append (pe_fld (pe_var (i := j) hN hv hd hcd) hab) (pa_cons a1 pa_nil hs) hbase hfew hline hs hplain) hsw, fun B F H σ ρ Dd D' S q k => ?_⟩
  obtain ⟨C, pp, l, e0, c, na, q⟩ := q
  obtain ⟨a, dx, vs, us, e, ha, hl, hp, _⟩ := S.attr e0
  refine ⟨_, e, a, C, dx, vs, _, rfl, ha, by rw [← hK]; exact c, by rw [← hK]; exact na, hl, .inl ⟨rfl, _, SqL.of hp⟩, a2 B [] F H σ ρ _ _ S q ?_⟩
  rintro v H1 ⟨F1, d, ρ1, s1, S1, r1, l1, e1, hlen, qd⟩
  obtain ⟨a', dx', vs', us', e', ha', hl', hp', rv, bk⟩ := S1.attr e1
  exact ⟨_, us', v, rfl, rfl, hp', by rw [rv.length]; exact hlen, k.nx _ _ ⟨F1, _, s1, bk _ _ (rv.append (.cons r1 .nil)), qd⟩⟩
/-- o.f.pop() -/
def dPopA (K : PySem.W.Frag) (j : Nat) (f : Str) : TSd := fun D ρ => ∃ C p l, ρ.attr j f = some (C, p, l) ∧ Cls K C ∧ NoAttr K C f ∧ l ≠ [] ∧ D.nx (ρ.attw j f p l.dropLast)
theorem AtL.dropLast {K : PySem.W.Frag} {F : Hp} {vs : List V} {ds : List D} (h : AtL K F vs ds) : AtL K F vs.dropLast ds.dropLast := by
  rw [List.dropLast_eq_take, List.dropLast_eq_take, h.length]
  exact h.take _
theorem ds_popA (j : Nat) {apos cpos : Pos} (hK : G.K = X.K := by rfl) (hN : X.N[j]? = some x := by rfl) (hv : Vis X.env.scope x := by first | exact Or.inl rfl | exact Or.inr (Or.inl rfl) | exact Or.inr (Or.inr rfl))
    (hd : (x == ("__debug__" : Str)) = false := by decide) (hcd : (x == ("__classdict__" : Str)) = false := by decide) (hab : attributeBase (.Name x p) f X.env (eval (.Name x p) X.env) = eval (.Name x p) X.env := by rfl)
    (hbase : attributeBase (.Attribute (.Name x p) f pos') "pop" X.env (eval (.Attribute (.Name x p) f pos') X.env) = eval (.Attribute (.Name x p) f pos') X.env := by rfl)
    (hline : (apos.endLine == cpos.line) = true := by rfl)
    (hsw : swapsWith (.Call (.Attribute (.Attribute (.Name x p) f pos') "pop" apos) [] [] cpos) none pos.line X.env = pure false := by rfl) : PSd X G (.Expr (.Call (.Attribute (.Attribute (.Name x p) f pos') "pop" apos) [] [] cpos) pos) (dPopA G.K j f) := by
  refine ⟨_, ps_expr (pe_bm0 PySem.F.plainAttrs_list PySem.F.slot_list_pop PySem.F.type_list_pop mt_pop (pe_fld (pe_var (i := j) hN hv hd hcd) hab) hbase hline) hsw, fun B F H σ ρ Dd D' S q k => ?_⟩
  obtain ⟨C, pp, l, e0, c, na, ne, qd⟩ := q
  obtain ⟨a, dx, vs, us, e, ha, hl, hp, rv, bk⟩ := S.attr e0
  have pos_ : 0 < us.length := by rw [rv.length]; exact List.length_pos_iff.mpr ne
  have hy : us[us.length - 1]? = some (us[us.length - 1]'(by omega)) := List.getElem?_eq_getElem (by omega)
  exact ⟨_, e, a, C, dx, vs, _, rfl, ha, by rw [← hK]; exact c, by rw [← hK]; exact na, hl, .inl ⟨rfl, _, SqL.of hp⟩, _, us, _, rfl, rfl, hp, hy, k.nx _ _ ⟨F, _, Same.refl F, bk _ _ rv.dropLast, qd⟩⟩
/-- list(o.f): a copy of one's own -/
def dCopyA (K : PySem.W.Frag) (j : Nat) (f : Str) : TOd := fun ρ Q => ∃ C p l, ρ.attr j f = some (C, p, l) ∧ Cls K C ∧ NoAttr K C f ∧ Q (.lst l) ρ
theorem d_copyA (j : Nat) {p2 : Pos} (hm : X.mg "list" = none) (hK : G.K = X.K := by rfl) (hN : X.N[j]? = some x := by rfl) (hv : Vis X.env.scope x := by first | exact Or.inl rfl | exact Or.inr (Or.inl rfl) | exact Or.inr (Or.inr rfl))
    (hd : (x == ("__debug__" : Str)) = false := by decide) (hcd : (x == ("__classdict__" : Str)) = false := by decide) (hab : attributeBase (.Name x p) f X.env (eval (.Name x p) X.env) = eval (.Name x p) X.env := by rfl) (hg : Gl X "list" := by rfl)
    (hs : starEach [.Attribute (.Name x p) f pos'] X.env = (false, eval (.Attribute (.Name x p) f pos') X.env) :: starEach [] X.env := by rfl) (hpl : (backTo pos (starEach [] X.env)).any (·.1) = false := by rfl) :
    POd X G (.Call (.Name "list" p2) [.Attribute (.Name x p) f pos'] [] pos) (dCopyA G.K j f) := by
  refine ⟨_, pe_callTy call_list_of hg hm boot_list (pa_cons (pe_fld (pe_var (i := j) hN hv hd hcd) hab) pa_nil hs) (by decide) (by decide) hs hpl, fun B ex F H σ ρ Q Qh S q k => ?_⟩
  obtain ⟨C, pp, l, e0, c, na, qd⟩ := q
  obtain ⟨a, dx, vs, us, e, ha, hl, hp, rv, bk⟩ := S.attr e0
  exact ⟨_, e, a, C, dx, vs, _, rfl, ha, by rw [← hK]; exact c, by rw [← hK]; exact na, hl, _, _, rfl, .inl (SqL.of hp), fun p hp => k _ _ (LO.mk (Same.refl F) S hp (o := .lst _) ⟨rfl, _, upd_same, rv⟩ qd)⟩
end
end DL

/-! text DMb -/
set_option Elab.async false
set_option linter.all false
set_option maxRecDepth 100000
set_option maxHeartbeats 400000
/-! Methods and properties of things that may change; an object made whose __init__ gives it lists of its own. -/
namespace DL
open PySem PySem.Spec PyProof.Rows L2 RZ
section
variable {X : Cx} {k : Nat} {f C : Addr} {fd : FuncData} {ps : List Str} {sp : Sp} {E : St → XK} {m : Str} {pos apos : Pos} {o e : Expr} {es : List Expr} {ta : TE} {t : TA}
def tMethX (C : Addr) (m : Str) (sp : Sp) (E : St → XK) (ta : TE) (t : TA) : TE := fun σ H Q => ta σ H fun x H1 => ∃ a dx fs, x = .ref a ∧ H1 a = some (.ins C dx fs) ∧ fs.lookup m = none ∧ t σ H1 fun vs H2 => sp (x :: vs) H2 Q (E σ)
theorem pe_methX {pl : Sem Bool} (he : PE X o ta) (c : Cls X.K C) (hm : L2.Meth X.K C m f) (F : FnOk X.prog X.w X.K X.mg X.base (L2.CX X.prog X.w) k f fd ps sp) (hr : Room k X.A) (hb : Binds X.K fd ps []) (hx : ∀ σ, PassesAt (L2.CX X.prog X.w) X σ (E σ)) (ha : PA X (e :: es) t)
    (hst : starEach (e :: es) X.env = (false, eval e X.env) :: starEach es X.env := by rfl) (hpl : (backTo pos (starEach es X.env)).any (·.1) = false := by rfl)
    (ht : eval (.Call (.Attribute o m apos) (e :: es) [] pos) X.env = (do
      let ov ← eval o X.env
      standAt apos.atName
      let (f, first) ← holding [ov] (getMethod ov m pl)
      callWith pos f first (backTo pos (starEach (e :: es) X.env)) (backToKw pos (keywordEach [] X.env))) := by rfl) :
    PE X (.Call (.Attribute o m apos) (e :: es) [] pos) (tMethX C m sp E ta t) := by
  refine ⟨fun pins s σ H Q I h => ?_⟩
  refine PySem.W.methodCall_KW (pl := pl) (thn (he.run pins s σ H _ I h) fun u s1 ⟨x, H1, I1, rx, a, dx, fs, ex, ea, l, q⟩ => ?_) ht
  subst ex
  obtain rfl : u = Value.ref a := rx
  refine getmeth_ok I1 ea c hm l ?_
  refine PySem.W.callWith_K (first := [.ref a]) (h₀ := X.base) I.ok.mod.kin hm.kp (thn (ha.run pos pins s1 σ H1 _ I1 q) fun us s2 ⟨vs, H2, I2, r, q2⟩ => ⟨I2.kIn, ?_⟩) hst hpl
  exact run_fnS (us := .ref a :: us) (vs := .ref a :: vs) F hr hb (hx σ) I2 (.cons rfl r) q2
theorem pe_methX0 {pl : Sem Bool} (he : PE X o ta) (c : Cls X.K C) (hm : L2.Meth X.K C m f) (F : FnOk X.prog X.w X.K X.mg X.base (L2.CX X.prog X.w) k f fd ps sp) (hr : Room k X.A) (hb : Binds X.K fd ps []) (hx : ∀ σ, PassesAt (L2.CX X.prog X.w) X σ (E σ))
    (ht : eval (.Call (.Attribute o m apos) [] [] pos) X.env = (do
      let ov ← eval o X.env
      standAt apos.atName
      let (f, first) ← holding [ov] (getMethod ov m pl)
      callWith pos f first (backTo pos (starEach [] X.env)) (backToKw pos (keywordEach [] X.env))) := by rfl) :
    PE X (.Call (.Attribute o m apos) [] [] pos) (tMethX C m sp E ta tNil) := by
  refine ⟨fun pins s σ H Q I h => ?_⟩
  refine PySem.W.methodCall_KW (pl := pl) (thn (he.run pins s σ H _ I h) fun u s1 ⟨x, H1, I1, rx, a, dx, fs, ex, ea, l, q⟩ => ?_) ht
  subst ex
  obtain rfl : u = Value.ref a := rx
  refine getmeth_ok I1 ea c hm l ?_
  exact PySem.W.callWith_K0 (first := [.ref a]) I1.kIn hm.kp (run_fnS (us := [.ref a]) (vs := [.ref a]) F hr hb (hx σ) I1 (.cons rfl .nil) q)
end
/-- a method of a class -/
structure MthC (P : Program) (w : World) (K : PySem.W.Frag) (mg : Str → Option Value) (base : Heap) (C : Addr) (nm : Str) (ps : List Str) (k : Nat) (g : Gd) : Prop where
  ex : ∃ f fd, FnD P w K mg base k f fd ps g ∧ L2.Meth K C nm f ∧ Cls K C ∧ L2.Binds K fd ps []
/-- no attribute of the object's own has the name -/
def OD.lacks (o : OD) (C : Addr) (m : Str) : Prop := ∃ fs, o.obj = some (C, fs) ∧ fs.lookup m = none
theorem lookup_names {m : Str} : ∀ {vs : List (Str × V)} {fs : List (Str × Fv)}, vs.map (·.1) = fs.map (·.1) → fs.lookup m = none → vs.lookup m = none
  | [], [], _, _ => rfl
  | [], _ :: _, h, _ => by simp at h
  | _ :: _, [], h, _ => by simp at h
  | (g, w) :: vs, (g', u) :: fs, hn, h => by
    simp only [List.map_cons, List.cons.injEq] at hn
    obtain ⟨rfl, hn⟩ := hn
    unfold List.lookup at h ⊢
    cases e : m == g with
    | true => rw [e] at h; cases h
    | false => rw [e] at h; exact lookup_names hn h
section
variable {X : Cx} {G : Gx} {RX : RXd} {k j : Nat} {C : Addr} {ps : List Str} {g : Gd} {m y : Str} {p p' pos apos : Pos} {e : Expr} {es : List Expr} {t : TAd}
theorem OwnAt.lacks {K : PySem.W.Frag} {F H : Hp} {fp : List Addr} {a : Addr} {o : OD} (h : OwnAt K F H fp a o) (l : o.lacks C m) : ∃ dx vs, H a = some (.ins C dx vs) ∧ vs.lookup m = none := by
  obtain ⟨fs, e, l⟩ := l
  obtain ⟨⟨dx, ls, vs, efp, n1, n2, n3, ha, hx, hn, rv⟩, _⟩ := h.obj e
  exact ⟨dx, vs, ha, lookup_names hn l⟩
/-- a callee that may change the thing j: what its caller has to show -/
theorem thing_call {B F1 H1 : Hp} {ex : List Addr} {σ : St} {ρ1 : En} {a : Addr} {o : OD} {vs : List V} {ds : List D} {Q : VK} {R : Rv → List OD → Prop} (S1 : Sr G B ex F1 H1 σ ρ1) (e : σ[j]? = some (some (.ref a))) (q1 : ρ1.thing j = some o) (r1 : AtL G.K F1 vs ds)
    (q2 : g (.par 0 :: ds.map .d) [o] R (fun x π => ∃ o2, π[0]? = some o2 ∧ RX x (ρ1.chg j o2)))
    (kk : ∀ v H' fp, OwnAt G.K F1 H1 fp a o → (∀ F' H' o2 fpn, Chg F1 H1 F' H' fp fpn → OwnAt G.K F' H' fp a o2 → Sr G B (fpn ++ ex) F' H' σ (ρ1.chg j o2)) → LRv ⟨G.K, F1, H1, offB H1 fp, [(a, fp)]⟩ (offB H1 fp) F1 (fun r ρ' => R r ρ'.pa) v H' → Q v H') :
    SpD G.K g (.ref a :: vs) H1 Q (fun cls d H' => wish G RX cls d σ H') := by
  obtain ⟨a', fp, e', r, z, bk⟩ := S1.thing q1
  rw [e] at e'
  cases e'
  refine ⟨F1, offB H1 fp, [(a, fp)], .par 0 :: ds.map .d, [o], R, _, S1.callee1 r (fun x hx => (z x hx).1) r1, q2, fun v H' w => kk v H' fp r bk w, ?_⟩
  rintro cls d σ' H' ⟨B', F', ρ', x, S', r', o2, ho2, q'⟩
  have S2 : Sr ⟨G.K, F1, H1, offB H1 fp, [(a, fp)]⟩ (offB H1 fp) [] F' H' σ' ρ' := S'.weak S'.gb (Same.refl _) (fun x hx => hx)
  have w := bk F' H' o2 [] (.of S2 (fun x hx => absurd hx (by simp))) (pa_one S2 ho2)
  exact ⟨B, F', _, x, w.weak (Same.refl B) w.gb (fun x hx => absurd hx (by simp)), r', q'⟩
theorem ret_data {B F1 H1 H' : Hp} {ex fp : List Addr} {σ : St} {ρ1 : En} {a : Addr} {Q : D → En → Prop} {v : V} (S1 : Sr G B ex F1 H1 σ ρ1) (bk : ∀ F' H' o2 fpn, Chg F1 H1 F' H' fp fpn → OwnAt G.K F' H' fp a o2 → Sr G B (fpn ++ ex) F' H' σ (ρ1.chg j o2))
    (w : LRv ⟨G.K, F1, H1, offB H1 fp, [(a, fp)]⟩ (offB H1 fp) F1 (fun r ρ' => retD1 Q ρ1 j r ρ'.pa) v H') : LV G B ex F1 σ Q v H' := by
  obtain ⟨σ', ρ', ⟨F', y, s', S', r', o2, ho2, q2⟩ | ⟨F', pp, fpn, on, s', S', e, r', zz, o2, ho2, q2⟩⟩ := w
  · have w := bk F' H' o2 [] (.of S' (fun x hx => absurd hx (by simp))) (pa_one S' ho2)
    exact ⟨F', y, _, s', by simpa using w, r', q2⟩
  · subst e
    have w := bk F' H' o2 fpn (.of S' (fun x hx => (zz x hx).2.1)) (pa_one S' ho2)
    obtain ⟨F2, s2, S2, a2⟩ := w.still (ex := ex) (fp := fpn) r' (fun x hx => ⟨(zz x hx).1, S1.dom x (zz x hx).2.1, S1.bfree (zz x hx).2.1⟩) (fun x hx hm => (S1.xf x hx).2 (zz x hm).2.1) q2.1
    exact ⟨F2, _, _, s'.trans s2, S2, a2, q2.2⟩
theorem ret_own {B F1 H1 H' : Hp} {ex fp : List Addr} {σ : St} {ρ1 : En} {a : Addr} {Q : OD → En → Prop} {v : V} (S1 : Sr G B ex F1 H1 σ ρ1) (bk : ∀ F' H' o2 fpn, Chg F1 H1 F' H' fp fpn → OwnAt G.K F' H' fp a o2 → Sr G B (fpn ++ ex) F' H' σ (ρ1.chg j o2))
    (w : LRv ⟨G.K, F1, H1, offB H1 fp, [(a, fp)]⟩ (offB H1 fp) F1 (fun r ρ' => retO1 Q ρ1 j r ρ'.pa) v H') : LO G B ex F1 σ Q v H' := by
  obtain ⟨σ', ρ', ⟨F', y, s', S', r', o2, ho2, q2⟩ | ⟨F', pp, fpn, on, s', S', e, r', zz, o2, ho2, q2⟩⟩ := w
  · exact q2.elim
  · subst e
    have w := bk F' H' o2 fpn (.of S' (fun x hx => (zz x hx).2.1)) (pa_one S' ho2)
    exact ⟨F', pp, fpn, on, _, s', w, rfl, r', fun x hx => ⟨(zz x hx).1, S1.dom x (zz x hx).2.1, S1.bfree (zz x hx).2.1⟩, fun x hx hm => (S1.xf x hx).2 (zz x hm).2.1, q2⟩
/-- o.m(..), o a thing that may change -/
def dMeth (C : Addr) (j : Nat) (m : Str) (g : Gd) (RX : RXd) (t : TAd) : TEd := fun ρ Q => (∃ o, ρ.thing j = some o ∧ o.lacks C m) ∧ t ρ fun ds ρ1 => ∃ o, ρ1.thing j = some o ∧ g (.par 0 :: ds.map .d) [o] (retD1 Q ρ1 j) (fun x π => ∃ o2, π[0]? = some o2 ∧ RX x (ρ1.chg j o2))
def dMethO (C : Addr) (j : Nat) (m : Str) (g : Gd) (RX : RXd) (t : TAd) : TOd := fun ρ Q => (∃ o, ρ.thing j = some o ∧ o.lacks C m) ∧ t ρ fun ds ρ1 => ∃ o, ρ1.thing j = some o ∧ g (.par 0 :: ds.map .d) [o] (retO1 Q ρ1 j) (fun x π => ∃ o2, π[0]? = some o2 ∧ RX x (ρ1.chg j o2))
theorem d_meth (j : Nat) (c : MthC X.prog X.w X.K X.mg X.base C m ps k g) (hr : Room k X.A) (tk : Takes X (wish G RX)) (ha : PAd X G (e :: es) t) (hK : G.K = X.K := by rfl) (hN : X.N[j]? = some y := by rfl) (hv : Vis X.env.scope y := by first | exact Or.inl rfl | exact Or.inr (Or.inl rfl) | exact Or.inr (Or.inr rfl)) (hd : (y == ("__debug__" : Str)) = false := by decide) (hcd : (y == ("__classdict__" : Str)) = false := by decide)
    {pl : Sem Bool} (hst : starEach (e :: es) X.env = (false, eval e X.env) :: starEach es X.env := by rfl) (hpl : (backTo pos (starEach es X.env)).any (·.1) = false := by rfl)
    (ht : eval (.Call (.Attribute (.Name y p') m apos) (e :: es) [] pos) X.env = (do
      let ov ← eval (.Name y p') X.env
      standAt apos.atName
      let (f, first) ← holding [ov] (getMethod ov m pl)
      callWith pos f first (backTo pos (starEach (e :: es) X.env)) (backToKw pos (keywordEach [] X.env))) := by rfl) : PEd X G (.Call (.Attribute (.Name y p') m apos) (e :: es) [] pos) (dMeth C j m g RX t) := by
  obtain ⟨f, fd, F, hm, hc, hb⟩ := c.ex
  obtain ⟨tu, h1, h2⟩ := ha
  refine ⟨_, pe_methX (pe_var (i := j) hN hv hd hcd) hc hm F hr hb (fun σ => passAt tk σ) h1 hst hpl ht, fun B ex F H σ ρ Q Qh S q kk => ?_⟩
  obtain ⟨⟨o0, q0, l0⟩, q⟩ := q
  obtain ⟨a, fp0, e0, r0, _⟩ := S.thing q0
  obtain ⟨dx, vs0, ha0, lk⟩ := r0.lacks l0
  refine ⟨_, e0, a, dx, vs0, rfl, ha0, lk, h2 B ex F H σ ρ _ _ S q ?_⟩
  rintro vs H1 ⟨F1, ds, ρ1, s1, S1, r1, o, q1, q2⟩
  rw [← hK]
  refine thing_call S1 e0 q1 r1 q2 fun v H' fp r bk w => ?_
  obtain ⟨F2, y, ρ2, s2, S2, a2, qd⟩ := ret_data S1 bk w
  exact kk _ _ ⟨F2, y, ρ2, s1.trans s2, S2, a2, qd⟩
theorem d_meth0 (j : Nat) (c : MthC X.prog X.w X.K X.mg X.base C m ps k g) (hr : Room k X.A) (tk : Takes X (wish G RX)) (hK : G.K = X.K := by rfl) (hN : X.N[j]? = some y := by rfl) (hv : Vis X.env.scope y := by first | exact Or.inl rfl | exact Or.inr (Or.inl rfl) | exact Or.inr (Or.inr rfl)) (hd : (y == ("__debug__" : Str)) = false := by decide) (hcd : (y == ("__classdict__" : Str)) = false := by decide)
    {pl : Sem Bool} (ht : eval (.Call (.Attribute (.Name y p') m apos) [] [] pos) X.env = (do
      let ov ← eval (.Name y p') X.env
      standAt apos.atName
      let (f, first) ← holding [ov] (getMethod ov m pl)
      callWith pos f first (backTo pos (starEach [] X.env)) (backToKw pos (keywordEach [] X.env))) := by rfl) : PEd X G (.Call (.Attribute (.Name y p') m apos) [] [] pos) (dMeth C j m g RX dNil) := by
  obtain ⟨f, fd, F, hm, hc, hb⟩ := c.ex
  refine ⟨_, pe_methX0 (pe_var (i := j) hN hv hd hcd) hc hm F hr hb (fun σ => passAt tk σ) ht, fun B ex F H σ ρ Q Qh S q kk => ?_⟩
  obtain ⟨⟨o0, q0, l0⟩, o, q1, q2⟩ := q
  obtain ⟨a, fp0, e0, r0, _⟩ := S.thing q0
  obtain ⟨dx, vs0, ha0, lk⟩ := r0.lacks l0
  refine ⟨_, e0, a, dx, vs0, rfl, ha0, lk, ?_⟩
  show SpD X.K g (V.ref a :: []) H Qh _
  rw [← hK]
  refine thing_call S e0 q1 .nil q2 fun v H' fp r bk w => ?_
  obtain ⟨F2, y, ρ2, s2, S2, a2, qd⟩ := ret_data S bk w
  exact kk _ _ ⟨F2, y, ρ2, s2, S2, a2, qd⟩
theorem d_meth0O (j : Nat) (c : MthC X.prog X.w X.K X.mg X.base C m ps k g) (hr : Room k X.A) (tk : Takes X (wish G RX)) (hK : G.K = X.K := by rfl) (hN : X.N[j]? = some y := by rfl) (hv : Vis X.env.scope y := by first | exact Or.inl rfl | exact Or.inr (Or.inl rfl) | exact Or.inr (Or.inr rfl)) (hd : (y == ("__debug__" : Str)) = false := by decide) (hcd : (y == ("__classdict__" : Str)) = false := by decide)
    {pl : Sem Bool} (ht : eval (.Call (.Attribute (.Name y p') m apos) [] [] pos) X.env = (do
      let ov ← eval (.Name y p') X.env
      standAt apos.atName
      let (f, first) ← holding [ov] (getMethod ov m pl)
      callWith pos f first (backTo pos (starEach [] X.env)) (backToKw pos (keywordEach [] X.env))) := by rfl) : POd X G (.Call (.Attribute (.Name y p') m apos) [] [] pos) (dMethO C j m g RX dNil) := by
  obtain ⟨f, fd, F, hm, hc, hb⟩ := c.ex
  refine ⟨_, pe_methX0 (pe_var (i := j) hN hv hd hcd) hc hm F hr hb (fun σ => passAt tk σ) ht, fun B ex F H σ ρ Q Qh S q kk => ?_⟩
  obtain ⟨⟨o0, q0, l0⟩, o, q1, q2⟩ := q
  obtain ⟨a, fp0, e0, r0, _⟩ := S.thing q0
  obtain ⟨dx, vs0, ha0, lk⟩ := r0.lacks l0
  refine ⟨_, e0, a, dx, vs0, rfl, ha0, lk, ?_⟩
  show SpD X.K g (V.ref a :: []) H Qh _
  rw [← hK]
  exact thing_call S e0 q1 .nil q2 fun v H' fp r bk w => kk _ _ (ret_own S bk w)
/-- o.f, f a property, o a thing that may change -/
def dPropT (C : Addr) (j : Nat) (g : Gd) : TEd := fun ρ Q => ∃ o fs, ρ.thing j = some o ∧ o.obj = some (C, fs) ∧ g [.par 0] [o] (retD1 Q ρ j) (fun _ _ => False)
theorem d_propT {f : Str} (j : Nat) (c : PrpC X.prog X.w X.K X.mg X.base C f k g) (hr : Room (k + 1) X.A) (hK : G.K = X.K := by rfl) (hN : X.N[j]? = some y := by rfl) (hv : Vis X.env.scope y := by first | exact Or.inl rfl | exact Or.inr (Or.inl rfl) | exact Or.inr (Or.inr rfl)) (hd : (y == ("__debug__" : Str)) = false := by decide) (hcd : (y == ("__classdict__" : Str)) = false := by decide)
    (hab : attributeBase (.Name y p') f X.env (eval (.Name y p') X.env) = eval (.Name y p') X.env := by rfl) : PEd X G (.Attribute (.Name y p') f pos) (dPropT C j g) := by
  obtain ⟨fa, fd, p, F, hp, cl, bs⟩ := c.ex
  refine ⟨_, pe_prop (pe_var (i := j) hN hv hd hcd) cl hp F hr bs .nil passE hab, fun B ex F H σ ρ Q Qh S q kk => ?_⟩
  obtain ⟨o, fs, q1, eo, q2⟩ := q
  obtain ⟨a, fp0, e0, r0, _⟩ := S.thing q1
  obtain ⟨⟨dx, ls, vs, efp, n1, n2, n3, ha, hx, hn, rv⟩, _⟩ := r0.obj eo
  refine ⟨_, e0, a, dx, vs, rfl, ha, ?_⟩
  rw [← hK]
  obtain ⟨F', B', pa, ps', π, R, RX', S', q', k1, k2⟩ := thing_call (RX := fun _ _ => False) (ds := []) (vs := []) (Q := Qh) (g := fun a b c d => g a b c (fun _ _ => False) ∧ d = fun _ _ => False) S e0 q1 .nil ⟨q2, by funext x π; exact propext ⟨fun ⟨_, _, h⟩ => h, fun h => h.elim⟩⟩ (R := retD1 Q ρ j) fun v H' fp r bk w => by
    obtain ⟨F2, y, ρ2, s2, S2, a2, qd⟩ := ret_data S bk w
    exact kk _ _ ⟨F2, y, ρ2, s2, S2, a2, qd⟩
  exact ⟨F', B', pa, ps', π, R, fun _ _ => False, S', q'.1, k1, fun cls d σ' H' ⟨_, _, _, _, _, _, z⟩ => z.elim⟩
end
/-! ### an object made, with lists of its own -/
abbrev Gi := List D → (List (Str × Fv) → Prop) → (Exn → Prop) → Prop
def SpI (K : PySem.W.Frag) (C : Addr) (g : Gi) : Sp := fun vs H Q E =>
  ∃ (F H0 B : Hp) (x : Addr) (us : List V) (ds : List D) (R : List (Str × Fv) → Prop) (RX : Exn → Prop), vs = .ref x :: us ∧
    Sr ⟨K, F, H0, B, []⟩ B [] F H (vs.map some) ⟨.own (.insA x C []) :: ds.map .d, []⟩ ∧ g ds R RX ∧
    (∀ F' H' fp fs, Same F F' → (∀ a, F' a ≠ none → F a ≠ none ∨ H0 a = none) → Same F' H' → Same B H' → ObjAt K F' H' fp x C fs → (∀ y ∈ fp, F' y = none ∧ H0 y = none) → R fs → Q .non H') ∧
    (∀ cls d σ H', wish ⟨K, F, H0, B, []⟩ (fun x _ => RX x) cls d σ H' → E cls d H')
abbrev FnI (P : Program) (w : World) (K : PySem.W.Frag) (mg : Str → Option Value) (base : Heap) (k : Nat) (f : Addr) (fd : FuncData) (ps : List Str) (C : Addr) (g : Gi) : Prop := FnOk P w K mg base (L2.CX P w) k f fd ps (SpI K C g)
/-- a class of the text that can be made, whose __init__ gives lists of its own -/
structure MakI (P : Program) (w : World) (K : PySem.W.Frag) (mg : Str → Option Value) (base : Heap) (x : Str) (C : Addr) (ps : List Str) (k : Nat) (g : Gi) : Prop where
  ex : ∃ f fd, FnI P w K mg base k f fd ps C g ∧ Mk K C f ∧ mg x = some (.ref C) ∧ L2.Binds K fd ps []
theorem MDef.okI {P : Program} {w : World} {K : PySem.W.Frag} {mg : Str → Option Value} {base : Heap} {x q : Str} {C : Addr} {st : Stmt} {N ps : List Str} {k n : Nat} {g : Gi} (d : MDef K mg x C q st ps) (S : FnScope N ps (defScope st))
    (hl : ∀ ds R RX, g ds R RX → ds.length + 1 = ps.length) (hn : N.length - ps.length = n)
    (hb : ∀ (f : Addr) (cdv : Value) (A : Around) (outer : List Env) (s : Shared) (H : Hp) (E : XK) (F H0 B : Hp) (RX : Exn → Prop), Room k (A.deeper (envOfC q (defScope st) s.heap.objs.size f cdv)) →
      Takes (cxOf (L2.CX P w) P w K mg base N q (defScope st) f cdv A outer s H E) (wish ⟨K, F, H0, B, []⟩ (fun x _ => RX x)) →
      ∃ t, PSsd (cxOf (L2.CX P w) P w K mg base N q (defScope st) f cdv A outer s H E) ⟨K, F, H0, B, []⟩ (defBody st) t ∧
        ∀ a ds R, g ds R RX → t { nx := fun ρ => ∃ fs, ρ.sl[0]? = some (.own (.insA a C fs)) ∧ R fs, rt := fun _ _ => False } ⟨.own (.insA a C []) :: ds.map .d ++ List.replicate n .no, []⟩) : MakI P w K mg base x C ps (k + 1) g := by
  obtain ⟨f, fd, h1, h2, h3, h4⟩ := d
  refine ⟨f, fd, ?_, h2, h3, h4⟩
  refine h1.okX S (fun vs H Q E h => ?_) (fun cdv A outer s H vs Q E hr h => ?_)
  · obtain ⟨F, H0, B, x, us, ds, R, RX, e, S', qq, _⟩ := h
    have := S'.len
    rw [List.length_map] at this
    rw [← this, ← hl _ _ _ qq]
    simp
  · obtain ⟨F, H0, B, x, us, ds, R, RX, e, S', qq, k1, k2⟩ := h
    have tk : Takes (cxOf (L2.CX P w) P w K mg base N q (defScope st) f cdv A outer s H E) (wish ⟨K, F, H0, B, []⟩ (fun x _ => RX x)) := (takes_of rfl rfl rfl rfl : Takes _ (fun cls d _ H => E cls d H)).imp fun cls d σ H' z => k2 cls d σ H' z
    obtain ⟨t, ⟨ts, h1, h2⟩, h3⟩ := hb f cdv A outer s H E F H0 B RX hr tk
    have ln : vs.length = ps.length := by
      have := S'.len
      rw [List.length_map] at this
      rw [← this, ← hl _ _ _ qq]
      simp
    have en := S'.entry N
    rw [ln, hn] at en
    refine ⟨ts, h1, h2 B F H _ _ _ _ en (h3 x ds R qq) ⟨?_, ?_, ?_, ?_⟩⟩
    · rintro σ' H' ⟨F', ρ', s', S'', fs, e1, q'⟩
      obtain ⟨a, fp, e2, r, z⟩ := S''.ownAt e1
      obtain ⟨ea, r⟩ := r
      subst ea
      exact k1 F' H' fp fs S''.f0 S''.fn S''.fh (S''.gb.trans S''.bh) r (fun y hy => ⟨(z y hy).1, (z y hy).2.1⟩) q'
    · rintro v H' ⟨_, _, ⟨_, _, _, _, _, z⟩ | ⟨_, _, _, _, _, _, _, _, _, z⟩⟩
      · exact z.elim
      · exact z.elim
    · rintro σ' H' ⟨F', ρ', s', S'', q'⟩
      exact q'.elim
    · rintro σ' H' ⟨F', ρ', s', S'', q'⟩
      exact q'.elim
section
variable {X : Cx} {G : Gx} {RX : RXd} {k : Nat} {C : Addr} {ps : List Str} {g : Gi} {x : Str} {p pos : Pos} {e : Expr} {es : List Expr} {t : TAd}
def dMakeI (C : Addr) (g : Gi) (RX : RXd) (t : TAd) : TOd := fun ρ Q => t ρ fun ds ρ1 => g ds (fun fs => Q (.ins C fs) ρ1) (fun x => RX x ρ1)
theorem d_makeI (c : MakI X.prog X.w X.K X.mg X.base x C ps k g) (hr : Room (k + 1) X.A) (tk : Takes X (wish G RX)) (ha : PAd X G (e :: es) t) (hK : G.K = X.K := by rfl) (hg : Gl X x := by rfl) (hdb : (x == ("__debug__" : Str)) = false := by decide)
    (he : starEach (e :: es) X.env = (false, eval e X.env) :: starEach es X.env := by rfl) (hpl : (backTo pos (starEach es X.env)).any (·.1) = false := by rfl) : POd X G (.Call (.Name x p) (e :: es) [] pos) (dMakeI C g RX t) := by
  obtain ⟨f, fd, F, M, hm, hb⟩ := c.ex
  obtain ⟨tu, h1, h2⟩ := ha
  refine ⟨_, pe_makeS M F hr hg hm hb (fun σ => passAt tk σ) h1 hdb he hpl, fun B ex F H σ ρ Q Qh S q kk => h2 B ex F H σ ρ _ _ S q ?_⟩
  rintro vs H1 ⟨F1, ds, ρ1, s1, S1, r1, q1⟩ x dx nx ndx ne
  have oth : ∀ {y}, H1 y ≠ none → upd (upd H1 dx (HO.own x)) x (.ins C dx []) y = H1 y := fun {y} hy => by
    rw [upd_ne (fun w => hy (by rw [w]; exact nx)), upd_ne (fun w => hy (by rw [w]; exact ndx))]
  refine ⟨F1, H1, H1, x, vs, ds, fun fs => Q (.ins C fs) ρ1, fun e => RX e ρ1, rfl, ?_, q1, ?_, ?_⟩
  · rw [← hK]
    refine ⟨Same.refl F1, Same.refl H1, fun a h => .inl h, fun b u hb => ?_, fun b u hb => ?_, fun b hb => ?_, by simp [r1.length], fun y hy => absurd hy (by simp), rfl, fun k ap o h => absurd (show ([] : List (Addr × List Addr))[k]? = some ap from h) (by simp), fun ap h => absurd (show ap ∈ ([] : List (Addr × List Addr)) from h) (by simp),
      fun j k ap bp h => absurd (show ([] : List (Addr × List Addr))[j]? = some ap from h) (by simp), fun _ => [x, dx], fun i s hs => ?_, fun i o hs y hy hm => absurd hm (by simp), fun i j o u hi hj ne => ?_⟩
    · have w := S1.fh b u hb
      rw [oth (by rw [w]; simp)]; exact w
    · rw [oth (by rw [hb]; simp)]; exact hb
    · by_cases w : H1 b = none
      · exact w
      · rw [oth w] at hb; exact hb
    · cases i with
      | zero =>
        have hs' : (Sl.own (.insA x C []) :: ds.map Sl.d)[0]? = some s := hs
        simp at hs'
        subst hs'
        refine ⟨x, rfl, ⟨rfl, dx, [], [], rfl, ne.symm, by simp, by simp, upd_same, by rw [upd_ne ne, upd_same], rfl, .nil⟩, fun y hy => ?_⟩
        rcases List.mem_cons.mp hy with w | w
        · subst w; exact ⟨S1.ffree nx, nx, nx⟩
        · rw [List.mem_singleton] at w; subst w; exact ⟨S1.ffree ndx, ndx, ndx⟩
      | succ i =>
        have hs' : (Sl.own (.insA x C []) :: ds.map Sl.d)[i + 1]? = some s := hs
        rw [List.getElem?_cons_succ, List.getElem?_map] at hs'
        cases e : ds[i]? with
        | none => rw [e] at hs'; cases hs'
        | some d =>
          rw [e] at hs'
          cases hs'
          obtain ⟨v, hv, q⟩ := r1.get e
          exact ⟨v, by rw [List.map_cons, List.getElem?_cons_succ, List.getElem?_map, hv]; rfl, q⟩
    · have only : ∀ {i : Nat} {o : OD}, (Sl.own (.insA x C []) :: ds.map Sl.d)[i]? = some (.own o) → i = 0 := fun {i o} h => by
        cases i with
        | zero => rfl
        | succ i =>
          rw [List.getElem?_cons_succ, List.getElem?_map] at h
          cases e : ds[i]? with
          | none => rw [e] at h; cases h
          | some d => rw [e] at h; cases h
      exact absurd ((only hi).trans (only hj).symm) ne
  · rw [← hK]
    intro F' H' fp fs s' n' fh' hh' ob zz qd
    refine ⟨rfl, kk _ _ ⟨F', x, fp, .ins C fs, ρ1, s1.trans s', S1.growX ⟨s', n', fh', hh'⟩ fp (fun y hy => (zz y hy).2) (fun y hy => ⟨(zz y hy).1, ?_⟩), rfl, ob, fun y hy => ⟨(zz y hy).1, S1.dom y (zz y hy).2, S1.bfree (zz y hy).2⟩, fun y hy hm => (S1.xf y hy).2 (zz y hm).2, qd⟩⟩
    exact OwnAt.there (o := .ins C fs) ob y hy
  · rw [← hK]
    exact fun cls d σ' H' z => wish_call (K := G.K) (S1.weak (Same.refl B) S1.gb (fun x hx => absurd hx (by simp))) z
end
end DL

/-! text DMc -/
set_option Elab.async false
set_option linter.all false
set_option maxRecDepth 100000
set_option maxHeartbeats 400000
/-! Texts: split, join, strip; enumerate; lists put together as things of one's own; slices. -/
namespace DL
open PySem PySem.Spec PyProof.Rows L2 RZ
section
variable {X : Cx} {G : Gx} {pos apos p p2 : Pos} {a b c e : Expr} {ta tb tc te : TEd}
/-- a method of a text, with one argument -/
def dM1 (r : R2d) (ta tb : TEd) : TEd := fun ρ Q => ta ρ fun x ρ1 => (∃ z, x = .str z) ∧ tb ρ1 fun y ρ2 => r x y fun d => Q d ρ2
def oSplit : R2d := fun x y Q => match x, y with
  | .str a, .str b => (b.length == 0) = false ∧ a.length + 2 ≤ sizeLine ∧ Q (.lst ((Txt.split a b).map .str))
  | _, _ => False
theorem d_split (ha : PEd X G a ta) (hb : PEd X G b tb) (hs : starEach [b] X.env = [(false, eval b X.env)] := by rfl) (hbase : attributeBase a "split" X.env (eval a X.env) = eval a X.env := by rfl) (hline : (apos.endLine == pos.line) = true := by rfl) :
    PEd X G (.Call (.Attribute a "split" apos) [b] [] pos) (dM1 oSplit ta tb) := by
  obtain ⟨w, a1, a2⟩ := ha
  obtain ⟨u, b1, b2⟩ := hb
  refine ⟨_, L2.pe_split a1 b1 hs hbase hline, fun B ex F H σ ρ Q Qh S q k => a2 B ex F H σ ρ _ _ S q ?_⟩
  rintro v H1 ⟨F1, d, ρ1, s1, S1, r1, ⟨z, ez⟩, q1⟩
  subst ez
  cases r1
  refine ⟨⟨z, rfl⟩, b2 B ex F1 H1 σ ρ1 _ _ S1 q1 ?_⟩
  rintro y H2 ⟨F2, d2, ρ2, s2, S2, r2, q2⟩
  cases r2 with
  | str b' => exact ⟨_, _, rfl, rfl, q2.1, q2.2.1, fun p hp => k _ _ ⟨upd F2 p (.lst _), _, ρ2, (s1.trans s2).trans (same_new (S2.ffree hp)), S2.new hp, .lst upd_same (AtL.of_strs _), q2.2.2⟩⟩
  | _ => exact q2.elim
def strsOf : List D → Option (List Str)
  | [] => some []
  | .str a :: r => (strsOf r).map (a :: ·)
  | _ => none
theorem strsOf_eq : ∀ {l : List D} {ys : List Str}, strsOf l = some ys → l = ys.map .str
  | [], ys, h => by cases h; rfl
  | .str a :: r, ys, h => by
    unfold strsOf at h
    cases e : strsOf r with
    | none => rw [e] at h; cases h
    | some zs => rw [e] at h; cases h; rw [strsOf_eq e]; rfl
  | .non :: _, _, h => by cases h
  | .bl _ :: _, _, h => by cases h
  | .int _ :: _, _, h => by cases h
  | .ty _ :: _, _, h => by cases h
  | .cls _ :: _, _, h => by cases h
  | .lst _ :: _, _, h => by cases h
  | .tup _ :: _, _, h => by cases h
  | .dic _ :: _, _, h => by cases h
  | .ins _ _ :: _, _, h => by cases h
  | .scr _ :: _, _, h => by cases h
theorem strsOf_map (ys : List Str) : strsOf (ys.map .str) = some ys := by
  induction ys with
  | nil => rfl
  | cons a r ih => rw [List.map_cons]; unfold strsOf; rw [ih]; rfl
def oJoin : R2d := fun x y Q => match x, y with
  | .str a, .lst l => ∃ ys, strsOf l = some ys ∧ (ys.map (·.length)).sum + ys.length * a.length ≤ 16777216 ∧ Q (.str (Txt.join a ys))
  | _, _ => False
theorem d_join (ha : PEd X G a ta) (hb : PEd X G b tb) (hs : starEach [b] X.env = [(false, eval b X.env)] := by rfl) (hbase : attributeBase a "join" X.env (eval a X.env) = eval a X.env := by rfl) (hline : (apos.endLine == pos.line) = true := by rfl) :
    PEd X G (.Call (.Attribute a "join" apos) [b] [] pos) (dM1 oJoin ta tb) := by
  obtain ⟨w, a1, a2⟩ := ha
  obtain ⟨u, b1, b2⟩ := hb
  refine ⟨_, L2.pe_join a1 b1 hs hbase hline, fun B ex F H σ ρ Q Qh S q k => a2 B ex F H σ ρ _ _ S q ?_⟩
  rintro v H1 ⟨F1, d, ρ1, s1, S1, r1, ⟨z, ez⟩, q1⟩
  subst ez
  cases r1
  refine ⟨⟨z, rfl⟩, b2 B ex F1 H1 σ ρ1 _ _ S1 q1 ?_⟩
  rintro y H2 ⟨F2, d2, ρ2, s2, S2, r2, q2⟩
  unfold oJoin at q2
  split at q2
  · rename_i a' l e1
    cases e1
    obtain ⟨ys, hy, hl, qd⟩ := q2
    have el := strsOf_eq hy
    subst el
    cases r2 with
    | lst hv r =>
      have ev := r.strs
      subst ev
      exact ⟨_, _, ys, rfl, rfl, .inl (SqL.of (S2.fh _ _ hv)), hl, k _ _ ⟨F2, _, ρ2, s1.trans s2, S2, .str _, qd⟩⟩
  · exact q2.elim
def oStripC : R2d := fun x y Q => match x, y with
  | .str a, .str b => a.length ≤ sizeLine ∧ Q (.str (Txt.stripChars a b))
  | _, _ => False
theorem d_stripC (ha : PEd X G a ta) (hb : PEd X G b tb) (hs : starEach [b] X.env = [(false, eval b X.env)] := by rfl) (hbase : attributeBase a "strip" X.env (eval a X.env) = eval a X.env := by rfl) (hline : (apos.endLine == pos.line) = true := by rfl) :
    PEd X G (.Call (.Attribute a "strip" apos) [b] [] pos) (dM1 oStripC ta tb) := by
  obtain ⟨w, a1, a2⟩ := ha
  obtain ⟨u, b1, b2⟩ := hb
  refine ⟨_, L2.pe_m1 F.slot_str_strip F.type_str_strip L2.mt_stripChars a1 b1 hs hbase hline, fun B ex F H σ ρ Q Qh S q k => a2 B ex F H σ ρ _ _ S q ?_⟩
  rintro v H1 ⟨F1, d, ρ1, s1, S1, r1, ⟨z, ez⟩, q1⟩
  subst ez
  cases r1
  refine ⟨⟨z, rfl⟩, b2 B ex F1 H1 σ ρ1 _ _ S1 q1 ?_⟩
  rintro y H2 ⟨F2, d2, ρ2, s2, S2, r2, q2⟩
  cases r2 with
  | str b' => exact ⟨_, _, rfl, rfl, q2.1, k _ _ ⟨F2, _, ρ2, s1.trans s2, S2, .str _, q2.2⟩⟩
  | _ => exact q2.elim
/-! ### enumerate of a list -/
def enumD (l : List D) : List D := l.mapIdx fun i x => .tup [.int (i : Nat), x]
def iEnumL (te : TEd) : TId := fun ρ Q => te ρ fun x ρ1 => match x with
  | .lst l => Q (enumD l) ρ1
  | _ => False
theorem walk_enum {K : PySem.W.Frag} {a : Addr} {xs : List V} : Walk (Ite K a) xs.length (fun H => SqL K H a xs) (fun i H v H' => ∃ T x, v = .ref T ∧ H T = none ∧ H' = upd H T (.tup [.int (i : Nat), x]) ∧ xs[i]? = some x) := by
  refine ⟨fun i _ hi q => ⟨xs, xs[i], q, by simp [hi]⟩, fun _ q => ⟨xs, q, Nat.le_refl _⟩, fun i H v H' _ q y => ?_⟩
  obtain ⟨T, x, h1, h2, h3, h4⟩ := y
  exact ⟨T, x, h1, h2, h3, h4 xs q⟩
theorem di_enum {elts : List Expr} {kk : Nat} {tpos : Pos} (hg : Gl X "enumerate") (hm : X.mg "enumerate" = none) (ha : PEd X G a ta) (hK : G.K = X.K := by rfl) (hs : starEach [a] X.env = [(false, eval a X.env)] := by rfl) :
    PId X G (.Tuple elts kk tpos) (.Call (.Name "enumerate" p) [a] [] pos) (iEnumL ta) := by
  obtain ⟨w, h1, h2⟩ := ha
  refine ⟨_, pi_enum hg hm (pa_cons h1 pa_nil hs) hs, fun B ex F H σ ρ Q Qh S q k => h2 B ex F H σ ρ _ _ S q ?_⟩
  rintro v H1 ⟨F1, d, ρ1, s1, S1, r1, q1⟩
  cases r1 with
  | @lst a0 vs ds hv r =>
    refine ⟨_, _, rfl, SqL.of (S1.fh _ _ hv), ?_⟩
    rw [← hK]
    refine k _ _ F1 _ ρ1 s1 S1 ?_ q1
    refine ⟨fun H => SqL G.K H a0 vs, fun i H v H' => ∃ T x, v = .ref T ∧ H T = none ∧ H' = upd H T (.tup [.int (i : Nat), x]) ∧ vs[i]? = some x, ?_, fun F' H s s' => SqL.of (s' _ _ (s _ _ hv)), fun i F' H v H' s s' hi y => ?_⟩
    · rw [show (enumD ds).length = vs.length by simp [enumD, r.length]]
      exact walk_enum
    · obtain ⟨T, x, rfl, hT, rfl, hx⟩ := y
      obtain ⟨d, hd, r2⟩ := r.getV hx
      refine ⟨upd F' T (.tup [.int (i : Nat), x]), .tup [.int (i : Nat), d], Grow.new s' hT, ?_, .tup (SqT.of upd_same) (.cons (.int _) (.cons ((r2.mono s).mono (same_new (s'.free hT))) .nil))⟩
      unfold enumD
      rw [List.getElem?_mapIdx, hd]
      rfl
  | _ => exact q1.elim
/-! ### a list put together, as a thing of one's own -/
def dAddO (ta tb : TEd) : TOd := fun ρ Q => ta ρ fun x ρ1 => tb ρ1 fun y ρ2 => match x, y with
  | .lst a, .lst b => a.length + b.length ≤ sizeLine ∧ Q (.lst (a ++ b)) ρ2
  | _, _ => False
theorem d_addO (ha : PEd X G a ta) (hb : PEd X G b tb) : POd X G (.BinOp a .Add b pos) (dAddO ta tb) := by
  obtain ⟨w, a1, a2⟩ := ha
  obtain ⟨u, b1, b2⟩ := hb
  refine ⟨_, pe_op op_cat a1 b1, fun B ex F H σ ρ Q Qh S q k => a2 B ex F H σ ρ _ _ S q ?_⟩
  rintro v H1 ⟨F1, d, ρ1, s1, S1, r1, q1⟩
  refine b2 B ex F1 H1 σ ρ1 _ _ S1 q1 ?_
  rintro y H2 ⟨F2, d2, ρ2, s2, S2, r2, q2⟩
  cases r1 with
  | lst e1 r1 =>
    cases r2 with
    | lst e2 r2 =>
      obtain ⟨hl, qd⟩ := q2
      rw [← r1.length, ← r2.length] at hl
      exact ⟨_, _, _, _, rfl, rfl, S2.fh _ _ (s2 _ _ e1), S2.fh _ _ e2, hl, fun p hp => k _ _ (LO.mk (s1.trans s2) S2 hp (o := .lst _) ⟨rfl, _, upd_same, (r1.mono s2).append r2⟩ qd)⟩
    | _ => exact q2.elim
  | _ => exact q2.elim
/-! ### slices -/
abbrev TPd := En → (Option Int → En → Prop) → Prop
def pNone : TPd := fun ρ Q => Q none ρ
def pSome (te : TEd) : TPd := fun ρ Q => te ρ fun y ρ1 => match y with
  | .int i => Q (some i) ρ1
  | _ => False
def SndP (G : Gx) (w : St → Hp → (Option Int → Hp → Prop) → Prop) (t : TPd) : Prop := ∀ (B : Hp) ex F H σ ρ Q (Qh : Option Int → Hp → Prop), Sr G B ex F H σ ρ → t ρ Q → (∀ o H' F' ρ', Same F F' → Sr G B ex F' H' σ ρ' → Q o ρ' → Qh o H') → w σ H Qh
def PPo (X : Cx) (G : Gx) (o : Option Expr) (t : TPd) : Prop := ∃ w, PO X o w ∧ SndP G w t
theorem dp_none : PPo X G none pNone := ⟨_, po_none, fun B ex F H σ ρ Q Qh S q k => k _ H F ρ (Same.refl F) S q⟩
theorem dp_some (he : PEd X G e te) : PPo X G (some e) (pSome te) := by
  obtain ⟨w, a1, a2⟩ := he
  refine ⟨_, po_some a1, fun B ex F H σ ρ Q Qh S q k => a2 B ex F H σ ρ _ _ S q ?_⟩
  rintro v H1 ⟨F1, d, ρ1, s1, S1, r1, q1⟩
  cases r1 with
  | int i => exact ⟨i, rfl, k _ H1 F1 ρ1 s1 S1 q1⟩
  | _ => exact q1.elim
def cutD (xs : List D) (lo hi : Option Int) : List D := (xs.drop (HT.sIx xs.length 0 lo)).take (HT.sIx xs.length xs.length hi - HT.sIx xs.length 0 lo)
def dSlG (ta : TEd) (tl th : TPd) : TEd := fun ρ Q => ta ρ fun x ρ1 => tl ρ1 fun lo ρ2 => th ρ2 fun hi ρ3 => match x with
  | .lst l => Q (.lst (cutD l lo hi)) ρ3
  | .tup l => ¬ (HT.sIx l.length 0 lo = 0 ∧ HT.sIx l.length l.length hi = l.length) ∧ Q (.tup (cutD l lo hi)) ρ3
  | _ => False
theorem d_slG {lo hi : Option Expr} {tl th : TPd} (ha : PEd X G a ta) (hl : PPo X G lo tl) (hh : PPo X G hi th) (hK : G.K = X.K := by rfl) : PEd X G (.Subscript a (.Slice lo hi none p2) pos) (dSlG ta tl th) := by
  obtain ⟨w, a1, a2⟩ := ha
  obtain ⟨u, b1, b2⟩ := hl
  obtain ⟨z, c1, c2⟩ := hh
  have orr : SlR X (fun x lo hi H Q => rSlL X.K x lo hi H Q ∨ rSlT X.K x lo hi H Q) := fun pins s σ H x v vl vu lo hi sl Q I rx hs pl pu q => q.elim (sl_list pins s σ H x v vl vu lo hi sl Q I rx hs pl pu) (sl_tup pins s σ H x v vl vu lo hi sl Q I rx hs pl pu)
  refine ⟨_, pe_slice orr a1 b1 c1, fun B ex F H σ ρ Q Qh S q k => a2 B ex F H σ ρ _ _ S q ?_⟩
  rintro v H1 ⟨F1, d, ρ1, s1, S1, r1, q1⟩
  refine b2 B ex F1 H1 σ ρ1 _ _ S1 q1 ?_
  intro vl H2 F2 ρ2 s2 S2 q2
  refine c2 B ex F2 H2 σ ρ2 _ _ S2 q2 ?_
  intro vh H3 F3 ρ3 s3 S3 q3
  rw [← hK]
  cases r1 with
  | lst e r =>
    refine .inl ⟨_, _, rfl, SqL.of (S3.fh _ _ (s3 _ _ (s2 _ _ e))), fun p hp => k _ _ ⟨upd F3 p (.lst _), _, ρ3, ((s1.trans s2).trans s3).trans (same_new (S3.ffree hp)), S3.new hp, .lst upd_same ?_, q3⟩⟩
    unfold cutV cutD
    rw [r.length]
    exact (((r.drop _).take _).mono (s2.trans s3)).mono (same_new (S3.ffree hp))
  | tup e r =>
    obtain ⟨nw, qd⟩ := q3
    refine .inr ⟨_, _, rfl, sqt_same ((s2.trans s3).trans S3.fh) e, by rw [r.length]; exact nw, fun p hp => k _ _ ⟨upd F3 p (.tup _), _, ρ3, ((s1.trans s2).trans s3).trans (same_new (S3.ffree hp)), S3.new hp, .tup (SqT.of upd_same) ?_, qd⟩⟩
    unfold cutV cutD
    rw [r.length]
    exact (((r.drop _).take _).mono (s2.trans s3)).mono (same_new (S3.ffree hp))
  | _ => exact q3.elim
end
/-- code that is not reached -/
def dNever : TSd := fun _ _ => False
theorem dss_cut {X : Cx} {G : Gx} {ss : List Stmt} : PSsd X G ss dNever := dss_never
end DL

/-! text DMd -/
set_option Elab.async false
set_option linter.all false
set_option maxRecDepth 100000
set_option maxHeartbeats 400000
/-! isinstance(e, C) by name; len of an attribute's list; an __init__ with lists of its own, what it promises. -/
namespace DL
open PySem PySem.Spec PyProof.Rows L2 RZ
theorem dzI_off {X : Cx} {G : Gx} {k : Kx} {st : Stmt} {nm : String} {RX : RXd} {te : TEd} (h : k.ex = false) : PSd X G st (dRzI k nm RX te) := ⟨_, ps_never, fun _ _ _ _ _ _ _ _ q _ => Bool.noConfusion (h.symm.trans q.1)⟩
section
variable {X : Cx} {G : Gx} {a : Addr} {oe : Obj} {pn : List (Addr × Obj)} {e : Exn} {d : Option Addr} {n cn : Str} {C : Addr} {p p1 p2 pos : Pos}
theorem d_isExC (i : Nat) (hz : Zc (.ref e.C) d oe) (ok : ExOk d e) (hf : ∃ vs, oe.data = .fields vs) (hb : X.mg "isinstance" = none) (hC : X.mg cn = some (.ref C)) (hK : G.K = X.K := by rfl)
    (hN : (X.suite a ((a, oe) :: pn)).N[i]? = some n := by rfl) (hv : Vis (X.suite a ((a, oe) :: pn)).env.scope n := by first | exact Or.inl rfl | exact Or.inr (Or.inl rfl) | exact Or.inr (Or.inr rfl)) (hd : (n == ("__debug__" : Str)) = false := by decide) (hcd : (n == ("__classdict__" : Str)) = false := by decide)
    (hg : Gl (X.suite a ((a, oe) :: pn)) "isinstance" := by rfl) (hgc : Gl (X.suite a ((a, oe) :: pn)) cn := by rfl) (hdc : (cn == ("__debug__" : Str)) = false := by decide)
    (hs : starEach [.Name n p1, .Name cn p2] (X.suite a ((a, oe) :: pn)).env = (false, eval (.Name n p1) (X.suite a ((a, oe) :: pn)).env) :: starEach [.Name cn p2] (X.suite a ((a, oe) :: pn)).env := by rfl)
    (hs2 : starEach [.Name cn p2] (X.suite a ((a, oe) :: pn)).env = (false, eval (.Name cn p2) (X.suite a ((a, oe) :: pn)).env) :: starEach [] (X.suite a ((a, oe) :: pn)).env := by rfl)
    (hpl : (backTo pos (starEach [.Name cn p2] (X.suite a ((a, oe) :: pn)).env)).any (·.1) = false := by rfl) :
    PEd (X.suite a ((a, oe) :: pn)) G (.Call (.Name "isinstance" p) [.Name n p1, .Name cn p2] [] pos) (dIsEx G.K i a d e (.ref C)) :=
  d_isEx (cv := .ref C) i hz ok hf hb (pe_glob hgc hC (v := .ref C) rfl hdc) (fun u r => r) hK hN hv hd hcd hg hs hs2 hpl
theorem d_isExT {T : String} (i : Nat) (hz : Zc (.ref e.C) d oe) (ok : ExOk d e) (hf : ∃ vs, oe.data = .fields vs) (hb : X.mg "isinstance" = none) (hC : X.mg cn = none) (hT : bootBuiltins cn = some (.type T)) (hK : G.K = X.K := by rfl)
    (hN : (X.suite a ((a, oe) :: pn)).N[i]? = some n := by rfl) (hv : Vis (X.suite a ((a, oe) :: pn)).env.scope n := by first | exact Or.inl rfl | exact Or.inr (Or.inl rfl) | exact Or.inr (Or.inr rfl)) (hd : (n == ("__debug__" : Str)) = false := by decide) (hcd : (n == ("__classdict__" : Str)) = false := by decide)
    (hg : Gl (X.suite a ((a, oe) :: pn)) "isinstance" := by rfl) (hgc : Gl (X.suite a ((a, oe) :: pn)) cn := by rfl) (hdc : (cn == ("__debug__" : Str)) = false := by decide) (hn : cn ≠ "__name__" := by decide)
    (hs : starEach [.Name n p1, .Name cn p2] (X.suite a ((a, oe) :: pn)).env = (false, eval (.Name n p1) (X.suite a ((a, oe) :: pn)).env) :: starEach [.Name cn p2] (X.suite a ((a, oe) :: pn)).env := by rfl)
    (hs2 : starEach [.Name cn p2] (X.suite a ((a, oe) :: pn)).env = (false, eval (.Name cn p2) (X.suite a ((a, oe) :: pn)).env) :: starEach [] (X.suite a ((a, oe) :: pn)).env := by rfl)
    (hpl : (backTo pos (starEach [.Name cn p2] (X.suite a ((a, oe) :: pn)).env)).any (·.1) = false := by rfl) :
    PEd (X.suite a ((a, oe) :: pn)) G (.Call (.Name "isinstance" p) [.Name n p1, .Name cn p2] [] pos) (dIsEx G.K i a d e (.type T)) :=
  d_isEx (cv := .ty T) i hz ok hf hb (pe_bltn hgc hC hT (v := .ty T) rfl hn hdc) (fun u r => r) hK hN hv hd hcd hg hs hs2 hpl
end
section
variable {X : Cx} {G : Gx} {f x : Str} {p p2 pos pos' : Pos}
theorem d_lenA (j : Nat) (hm : X.mg "len" = none) (hK : G.K = X.K := by rfl) (hN : X.N[j]? = some x := by rfl) (hv : Vis X.env.scope x := by first | exact Or.inl rfl | exact Or.inr (Or.inl rfl) | exact Or.inr (Or.inr rfl))
    (hd : (x == ("__debug__" : Str)) = false := by decide) (hcd : (x == ("__classdict__" : Str)) = false := by decide) (hab : attributeBase (.Name x p) f X.env (eval (.Name x p) X.env) = eval (.Name x p) X.env := by rfl) (hg : Gl X "len" := by rfl)
    (hs : starEach [.Attribute (.Name x p) f pos'] X.env = (false, eval (.Attribute (.Name x p) f pos') X.env) :: starEach [] X.env := by rfl) (hpl : (backTo pos (starEach [] X.env)).any (·.1) = false := by rfl) :
    PEd X G (.Call (.Name "len" p2) [.Attribute (.Name x p) f pos'] [] pos) (dLenA G.K j f) := by
  refine ⟨_, pe_callB call_len_seq hg hm PyProof.Rows.Boot.«len» (pa_cons (pe_fld (pe_var (i := j) hN hv hd hcd) hab) pa_nil hs) (by decide) (by decide) hs hpl, fun B ex F H σ ρ Q Qh S q k => ?_⟩
  obtain ⟨C, pp, l, e0, c, na, qd⟩ := q
  obtain ⟨a, dx, vs, us, e, ha, hl, hp, rv, bk⟩ := S.attr e0
  exact ⟨_, e, a, C, dx, vs, _, rfl, ha, by rw [← hK]; exact c, by rw [← hK]; exact na, hl, _, _, rfl, .inl (SqL.of hp), by rw [rv.length]; exact k _ _ ⟨F, _, ρ, Same.refl F, S, .int _, qd⟩⟩
end
/-- an __init__ with lists of its own: m parameters behind self, n further slots -/
structure RokI (m n : Nat) (C : Addr) (g : Gi) (t : RXd → TSd) : Prop where
  len : ∀ ds R RX, g ds R RX → ds.length + 1 = m
  run : ∀ a ds R RX, g ds R RX → t (fun x _ => RX x) { nx := fun ρ => ∃ fs, ρ.sl[0]? = some (.own (.insA a C fs)) ∧ R fs, rt := fun _ _ => False } ⟨.own (.insA a C []) :: ds.map .d ++ List.replicate n .no, []⟩
/-- a method, as the text gives it -/
def MDfc (K : PySem.W.Frag) (C : Addr) (nm q : Str) (st : Stmt) (ps : List Str) : Prop := ∃ f fd, Fun K nm q st f fd ∧ L2.Meth K C nm f ∧ Cls K C ∧ L2.Binds K fd ps []
theorem MDfc.ok {P : Program} {w : World} {K : PySem.W.Frag} {mg : Str → Option Value} {base : Heap} {nm q : Str} {C : Addr} {st : Stmt} {N ps : List Str} {k n : Nat} {g : Gd} (d : MDfc K C nm q st ps) (S : FnScope N ps (defScope st))
    (hl : ∀ qs π R RX, g qs π R RX → qs.length = ps.length) (hn : N.length - ps.length = n)
    (hb : ∀ (f : Addr) (cdv : Value) (A : Around) (outer : List Env) (s : Shared) (H : Hp) (E : XK) (F B : Hp) (pa : List (Addr × List Addr)) (RX : Exn → List OD → Prop), Room k (A.deeper (envOfC q (defScope st) s.heap.objs.size f cdv)) →
      Takes (cxOf (L2.CX P w) P w K mg base N q (defScope st) f cdv A outer s H E) (wish ⟨K, F, H, B, pa⟩ (fun x ρ => RX x ρ.pa)) →
      ∃ t, PSsd (cxOf (L2.CX P w) P w K mg base N q (defScope st) f cdv A outer s H E) ⟨K, F, H, B, pa⟩ (defBody st) t ∧
        ∀ qs π R, g qs π R RX → t { nx := fun ρ => R (.d .non) ρ.pa, rt := fun r ρ => R r ρ.pa } ⟨qs ++ List.replicate n .no, π⟩) : MthC P w K mg base C nm ps (k + 1) g := by
  obtain ⟨f, fd, h1, h2, h3, h4⟩ := d
  exact ⟨f, fd, fn_d h1 S hl hn (hb f), h2, h3, h4⟩
/-- what a law's text gives of the class Hunt -/
structure HtK (k : Kx) : Prop where
  cls : Cls k.K (k.cl "Hunt")
  a1 : NoAttr k.K (k.cl "Hunt") "game"
  a2 : NoAttr k.K (k.cl "Hunt") "many"
  a3 : NoAttr k.K (k.cl "Hunt") "spots"
  a4 : NoAttr k.K (k.cl "Hunt") "done"
  a5 : NoAttr k.K (k.cl "Hunt") "steps"
end DL

/-! text DMe -/
set_option Elab.async false
set_option linter.all false
set_option maxRecDepth 100000
set_option maxHeartbeats 400000
/-! != of instances whose class has an __eq__ of its own; f-strings; a text many times. -/
namespace PySem.W
open PySem PySem.Spec PySem.Calls PyProof.Rows
section
variable {prog : Program} {w : World} {A : Around} {E : Value → Shared → Prop} {s : Shared} {K : Frag} {x C L f : Addr} {h₀ : Heap} {m : Str → Option Value} {ox : Obj} {od : Option Obj} {b tb : Value}
theorem dl_neBind (self : Value) : bindSpecial (.builtin "object.__ne__") self = pure (.builtin "object.__ne__", [self]) :=
  (Slot.of (T := "object") (name := "__ne__") (owner := "object") (n := "__ne__") (by rw [typeLookup_type, builtinLookup_eq_fast]; kernel_rfl) (by decide +kernel) (by decide +kernel) (by decide +kernel)
    (.inl (by decide +kernel)) (by rw [isSubtype_type]; kernel_rfl)).bind self
theorem dl_ne_entry (X : K.In s.heap) (I : InstAt s.heap x ox C od) (hse : findIn K (.ref C) "__eq__" = some (some (.ref f))) (hf : isFn K (.ref f) = true) (hu : A.units < cLine) {Q : Fin → Shared → Prop}
    (hcall : wpAny (model prog w) A (call (.ref f) [.ref x, b]) (fun v s' => ∃ bb, v = .bool bb ∧ Q (.done (.ret (.bool (!bb)))) s') E s) :
    wpAny (model prog w) A (Builtin.«object.__ne__» ⟨[.ref x, b], []⟩) Q E s := by
  unfold Builtin.«object.__ne__»
  repeat (first
    | with_reducible refine wpAny_cRoomFor hu ?_
    | (refine wpAny_bind (m := callSpecialIfBound? (.ref x) (Str.ofString "__eq__") [b])
        (ifBound_K X I hse hf (wpAny_mono hcall (fun r s' hr => by
          obtain ⟨bb, rfl, hq⟩ := hr
          repeat (first | exact hq | exact wpAny_pure hq | exact wpAny_truthy_bool hq | (refine wpAny_bind (m := truthy (.bool _)) (wpAny_truthy_bool ?_)) | wp_step)) fun _ _ e => e)))
    | wp_step)
theorem dl_neSlot : Slot "object" "__ne__" "object.__ne__" := Slot.of (T := "object") (name := "__ne__") (owner := "object") (n := "__ne__") (by rw [typeLookup_type, builtinLookup_eq_fast]; kernel_rfl) (by decide +kernel) (by decide +kernel) (by decide +kernel)
    (.inl (by decide +kernel)) (by rw [isSubtype_type]; kernel_rfl)
theorem dl_ifBound_ne {M : Model} {Q : Option Value → Shared → Prop} (X : K.In s.heap) (I : InstAt s.heap x ox C od) (hs : findIn K (.ref C) "__ne__" = some (some (.builtin "object.__ne__")))
    (h : wpAny M A (call (.builtin "object.__ne__") [.ref x, b]) (fun v => Q (some v)) E s) : wpAny M A (callSpecialIfBound? (.ref x) "__ne__" [b]) Q E s := by
  simp only [callSpecialIfBound?, bindSpecialIfBound?]
  refine wpAny_holding (wpAny_bind (wpAny_bind (wpAny_bind (I.type.here ((looks_findIn X hs).here ?_)))))
  simp only [dl_neBind]
  refine wpAny_bind (wpAny_askSetting (wpAny_ite ?_))
  have fin : wpAny M A (call (.builtin "object.__ne__") ([.ref x] ++ [b]) >>= fun v => pure (some v)) Q E s := wpAny_bind (wpAny_mono h (fun v s' h' => wpAny_pure h') fun _ _ h' => h')
  split
  · exact wpAny_bind (wpAny_pure (wpAny_pure fin))
  · exact wpAny_tryCatch (wpAny_bind (wpAny_pure (wpAny_pure fin)))
theorem dl_ne_K {Q : Value → Shared → Prop} (hu : A.units + 1 < cLine) (Fq : Fr h₀ L s.heap m) (X₀ : K.In h₀) (I : InstAt s.heap x ox C od) (hb : Looks (model prog w) s.heap (typeOf b) tb) (hn : notFirst K C tb = true)
    (hs : findIn K (.ref C) "__ne__" = some (some (.builtin "object.__ne__"))) (hse : findIn K (.ref C) "__eq__" = some (some (.ref f))) (hf : isFn K (.ref f) = true) (hm : mroIn K C (.type "object") = some true)
    (h : wpAny (model prog w) A.in1 (call (.ref f) [.ref x, b]) (fun v s' => ∃ bb, v = .bool bb ∧ Q (.bool (!bb)) s') E s) : wpAny (model prog w) A (richCompare .NotEq (.ref x) b) Q E s := by
  have X := X₀.keeps Fq.keep
  have sub : Looks (model prog w) s.heap (isInstance (.ref x) (.type "object")) true := I.type.andThen (looks_mroIn X hm)
  have one : wpAny (model prog w) A (tryCompare (.ref x) "__ne__" b) (fun r s' => ∃ v, r = some v ∧ Q v s') E s := by
    unfold tryCompare
    refine wpAny_bind (dl_ifBound_ne X I hs (wpAny_call (codeAny_call_builtin dl_neSlot.plain PySem.F.cmpEntry_ne ?_)))
    refine @check_slot (model prog w) _ _ s "object.__ne__" "object" "__ne__" (.ref x) [b] [] _ PySem.F.cmpKind_ne PySem.F.cmpSplit_ne sub (PySem.F.cmpArgs_ne _ _) ?_
    refine dl_ne_entry X I hse hf hu (wpAny_mono h (fun v s' hv => ?_) fun _ _ e => e)
    obtain ⟨bb, rfl, hq⟩ := hv
    first | exact ⟨bb, rfl, wpAny_pure ⟨_, rfl, hq⟩⟩ | exact ⟨bb, rfl, ⟨_, rfl, hq⟩⟩ | exact ⟨bb, rfl, wpAny_pure (wpAny_pure ⟨_, rfl, hq⟩)⟩
  unfold richCompare
  simp only [oneThing_ref]
  refine wpAny_holding (wpAny_bind (wpAny_cRoomFor (Nat.lt_of_succ_lt hu) ?_))
  rw [cmpInfo_NotEq]
  dsimp only
  refine wpAny_bind (I.type.here (wpAny_bind (hb.here ?_)))
  split
  · rename_i q
    have e : subIn K tb (.ref C) = some false := by
      rcases Bool.or_eq_true_iff.mp hn with e | e
      · rw [beq_iff_eq.mp e] at q; simp at q
      · exact beq_iff_eq.mp e
    refine wpAny_bind ((looks_subIn X e).here ?_)
    simp only [Bool.false_eq_true, if_false]
    refine wpAny_bind (wpAny_mono one (fun r s' z => ?_) fun _ _ e => e)
    obtain ⟨v, rfl, hq⟩ := z
    exact wpAny_pure hq
  · refine wpAny_bind (wpAny_pure ?_)
    simp only [Bool.false_eq_true, if_false]
    refine wpAny_bind (wpAny_mono one (fun r s' z => ?_) fun _ _ e => e)
    obtain ⟨v, rfl, hq⟩ := z
    exact wpAny_pure hq
end
end PySem.W
namespace DL
open PySem PySem.Spec PyProof.Rows L2 RZ
section
variable {X : Cx} {G : Gx} {pos : Pos} {e : Expr} {es : List Expr} {K : PySem.W.Frag}
/-- x != y, x an instance of the class at C -/
def oNeI (K : PySem.W.Frag) (C : Addr) (g : Gd) : R2d := fun x y Q => ∃ fs t, x = .ins C fs ∧ TyD K y t ∧ PySem.W.notFirst K C t = true ∧ PySem.W.findIn K (.ref C) "__ne__" = some (some (.builtin "object.__ne__")) ∧ PySem.W.mroIn K C (.type "object") = some true ∧ g [.d x, .d y] [] (fun r _ => ∃ b, r = .d (.bl b) ∧ Q (.bl (!b))) noX
def rNeI (K : PySem.W.Frag) (C : Addr) (g : Gd) : R2 := fun x y H Q => ∃ a dx fs t, x = .ref a ∧ H a = some (.ins C dx fs) ∧ TyX K H y t ∧ PySem.W.notFirst K C t = true ∧ PySem.W.findIn K (.ref C) "__ne__" = some (some (.builtin "object.__ne__")) ∧ PySem.W.mroIn K C (.type "object") = some true ∧ SpD K g [x, y] H (fun v H' => ∃ b, v = .bl b ∧ Q (.bl (!b)) H') noE
theorem op_neI {k : Nat} {C : Addr} {ps : List Str} {g : Gd} (c : MetC X.prog X.w X.K X.mg X.base C "__eq__" ps k g) (hr : Room (k + 1) X.A) : OpR X (compareOp .NotEq) (rNeI X.K C g) := by
  intro pins s σ H x y u v Q I rx ry hq
  obtain ⟨f, fd, F, hs, hf, hb⟩ := c.ex
  obtain ⟨a, dx, fs, t, rfl, ea, ty, nf, hne, hmo, sp⟩ := hq
  cases rx
  obtain ⟨mA, J, _⟩ := ins_get I.hok ea
  obtain ⟨od, J, _⟩ := J.look
  obtain ⟨m, hF⟩ := I.fr
  obtain ⟨P, Z, p, _⟩ := kit_of I ry ty
  have rr : Vals [V.ref a, y] [Value.ref a, v] := .cons (show RelV (.ref a) (.ref a) from rfl) (.cons ry .nil)
  have hl : [Value.ref a, v].length = ps.length := by rw [← rr.length]; exact F.len _ _ _ _ sp
  have bd := hb s [Value.ref a, v] I.kIn (by rw [List.append_nil]; exact hl)
  rw [List.append_nil] at bd
  show wpAny (model X.prog X.w) X.A (richCompare .NotEq (.ref a) v) (EP X pins σ Q) X.xe s
  refine PySem.W.dl_ne_K (tb := t) (by have := hr.un; omega) hF I.ok.mod.kin J (Z.ty _ _ I.kIn p) nf hne hs hf hmo ?_
  refine wpAny_call (codeAny_mono (F.run X.A.in1 X.stack s H ⟨[Value.ref a, v], []⟩ [Value.ref a, v] [V.ref a, y] _ noE hr.in1 I.env0.in1 bd rr sp) fun r s' hq => ?_)
  cases r with
  | error er => exact (cx_noneS X.w _ H s er s' hq).elim
  | ok fl =>
    cases fl with
    | ret u =>
      obtain ⟨w, H', I', rz, bb, rfl, q⟩ := I.after hq
      cases rz
      exact ⟨bb, rfl, .bl (!bb), H', I', rfl, q⟩
    | next => exact False.elim hq
    | brk => exact False.elim hq
    | cont => exact False.elim hq
theorem o_neI {k : Nat} {C : Addr} {ps : List Str} {g : Gd} (c : MetC X.prog X.w X.K X.mg X.base C "__eq__" ps k g) (hr : Room (k + 1) X.A) (hK : K = X.K := by rfl) : OpRd X K (compareOp .NotEq) (oNeI K C g) := by
  subst hK
  refine ⟨_, op_neI c hr, fun F H x y dx dy Q Qd s r q z kk => ?_⟩
  obtain ⟨fs, t, rfl, ty, nf, hne, hmo, z⟩ := z
  have r0 := r
  cases r with
  | @ins a _ dx' fs' gs e1 e2 n rr =>
    refine ⟨a, _, _, t, rfl, s _ _ e1, ty.ty s q, nf, hne, hmo, ?_⟩
    refine data_call (R := fun d => ∃ b, d = .bl b ∧ Qd (.bl (!b))) (ds := [.ins C fs, dy]) s (.cons r0 (.cons q .nil)) ?_ ?_
    · refine (?_ : g [.d (.ins C fs), .d dy] [] _ noX)
      have e : (fun (r : Rv) (_ : List OD) => ∃ b, r = .d (.bl b) ∧ Qd (.bl (!b))) = (fun (r : Rv) (_ : List OD) => match r with
          | .d x => ∃ b, x = .bl b ∧ Qd (.bl (!b))
          | .own o => o.still = true ∧ ∃ b, o.toD = .bl b ∧ Qd (.bl (!b))) := by
        funext r π
        cases r with
        | d x => exact propext ⟨fun ⟨b, e, q⟩ => ⟨b, by cases e; rfl, q⟩, fun ⟨b, e, q⟩ => ⟨b, by rw [e], q⟩⟩
        | own o =>
          refine propext ⟨?_, ?_⟩
          · rintro ⟨b, e, _⟩
            cases e
          · rintro ⟨_, b, e, _⟩
            cases o <;> cases e
      have z2 := z
      rw [e] at z2
      exact z2
    · rintro v F' H' d gr rv ⟨b, rfl, qd⟩
      cases rv
      exact ⟨b, rfl, kk _ _ _ _ gr (.bl _) qd⟩
def oNeX (K : PySem.W.Frag) (C : Addr) (g : Gd) : R2d := fun x y Q => oNeI K C g x y Q ∨ oNe x y Q
theorem o_neX {k : Nat} {C : Addr} {ps : List Str} {g : Gd} (c : MetC X.prog X.w X.K X.mg X.base C "__eq__" ps k g) (hr : Room (k + 1) X.A) (hu : X.A.units + 64 < cLine) (hK : K = X.K := by rfl) : OpRd X K (compareOp .NotEq) (oNeX K C g) := (o_neI c hr hK).or (o_ne hu hK)
end
end DL

/-! text DMf -/
set_option Elab.async false
set_option linter.all false
set_option maxRecDepth 100000
set_option maxHeartbeats 400000
/-! f-strings; a text many times. -/
namespace DL
open PySem PySem.Spec PyProof.Rows L2 RZ
section
variable {X : Cx} {G : Gx} {pos : Pos} {e : Expr} {es : List Expr} {te : TEd}
def dFmt (te : TEd) : TEd := fun ρ Q => te ρ fun x ρ1 => match x with
  | .str y => y.length ≤ sizeLine ∧ Q (.str y) ρ1
  | .int i => i.natAbs.log2 < 1920 ∧ Q (.str (toString i)) ρ1
  | _ => False
theorem d_fmt (he : PEd X G e te) : PEd X G (.FormattedValue e (-1) none pos) (dFmt te) := by
  obtain ⟨w, a1, a2⟩ := he
  refine ⟨_, pe_fmt a1, fun B ex F H σ ρ Q Qh S q k => a2 B ex F H σ ρ _ _ S q ?_⟩
  rintro v H1 ⟨F1, d, ρ1, s1, S1, r1, q1⟩
  cases r1 with
  | str y => exact .inl ⟨y, rfl, q1.1, k _ _ ⟨F1, _, ρ1, s1, S1, .str _, q1.2⟩⟩
  | int i => exact .inr ⟨i, rfl, q1.1, k _ _ ⟨F1, _, ρ1, s1, S1, .str _, q1.2⟩⟩
  | _ => exact q1.elim
def dJs : List TEd → Str → En → (Str → En → Prop) → Prop
  | [], acc, ρ, Q => Q acc ρ
  | t :: ts, acc, ρ, Q => t ρ fun x ρ1 => match x with
    | .str y => (acc ++ y).length ≤ sizeLine ∧ dJs ts (acc ++ y) ρ1 Q
    | _ => False
def PJd (X : Cx) (G : Gx) (es : List Expr) (ts : List TEd) : Prop := ∃ ws, PJ X es ws ∧ ∀ (B : Hp) ex F H σ ρ acc Q (Qh : Str → Hp → Prop), Sr G B ex F H σ ρ → dJs ts acc ρ Q → (∀ out H' F' ρ', Same F F' → Sr G B ex F' H' σ ρ' → Q out ρ' → Qh out H') → tJs ws acc σ H Qh
theorem dj_nil : PJd X G [] [] := ⟨[], .nil, fun B ex F H σ ρ acc Q Qh S q k => k acc H F ρ (Same.refl F) S q⟩
theorem dj_cons {ts : List TEd} (he : PEd X G e te) (hr : PJd X G es ts) : PJd X G (e :: es) (te :: ts) := by
  obtain ⟨w, a1, a2⟩ := he
  obtain ⟨ws, b1, b2⟩ := hr
  refine ⟨w :: ws, .cons a1 b1, fun B ex F H σ ρ acc Q Qh S q k => a2 B ex F H σ ρ _ _ S q ?_⟩
  rintro v H1 ⟨F1, d, ρ1, s1, S1, r1, q1⟩
  cases r1 with
  | str y => exact ⟨y, rfl, q1.1, b2 B ex F1 H1 σ ρ1 _ _ _ S1 q1.2 fun out H' F' ρ' s' S' q' => k out H' F' ρ' (s1.trans s') S' q'⟩
  | _ => exact q1.elim
def dFstr (ts : List TEd) : TEd := fun ρ Q => dJs ts Str.empty ρ fun out ρ1 => Q (.str out) ρ1
theorem d_fstr {v1 v2 : Expr} {rest : List Expr} {ts : List TEd} (h : PJd X G (v1 :: v2 :: rest) ts) : PEd X G (.JoinedStr (v1 :: v2 :: rest) pos) (dFstr ts) := by
  obtain ⟨ws, b1, b2⟩ := h
  exact ⟨_, pe_joined b1, fun B ex F H σ ρ Q Qh S q k => b2 B ex F H σ ρ _ _ _ S q fun out H' F' ρ' s' S' q' => k _ _ ⟨F', .str out, ρ', s', S', .str _, q'⟩⟩
/-! a text many times -/
def repS (a : Str) (n : Nat) : Str := ⟨(List.replicate n a.cps).foldl (· ++ ·) #[]⟩
theorem foldl_app (l : List (Array Nat)) : ∀ acc : Array Nat, (l.foldl (· ++ ·) acc).toList = acc.toList ++ l.flatMap (·.toList) := by
  induction l with
  | nil => intro acc; simp
  | cons x r ih => intro acc; rw [List.foldl_cons, ih]; simp
theorem repS_cps (a : Str) (n : Nat) : (repS a n).cps.toList = (List.replicate n a.cps.toList).flatten := by
  unfold repS
  dsimp only
  rw [foldl_app]
  simp [List.flatMap_def]
theorem repS_len (a : Str) (n : Nat) : (repS a n).length = n * a.length := by
  show (repS a n).cps.size = n * a.cps.size
  rw [← Array.length_toList, repS_cps]
  simp
theorem str_ext {a b : Str} (h : a.cps.toList = b.cps.toList) : a = b := by
  cases a
  cases b
  congr 1
  exact Array.toList_inj.mp h
theorem repS_one (a : Str) : repS a 1 = a := str_ext (by rw [repS_cps]; simp)
theorem repS_nil {a : Str} (h : a.length = 0) (n : Nat) : repS a n = a := str_ext (by
  have e : a.cps.toList = [] := by
    have : a.cps.size = 0 := h
    simpa using this
  rw [repS_cps, e]
  simp)
theorem op_mulS : OpR X (binaryOp .Mult) (fun x y H Q => ∃ a n, x = .str a ∧ y = .int n ∧ (0 ≤ n ∧ n ≤ 1000 ∧ a.length ≤ 1000) ∧ Q (.str (repS a n.toNat)) H) := by
  intro pins s σ H x y v u Q I rx ry h
  obtain ⟨a, n, rfl, rfl, ⟨h0, h1, h2⟩, q⟩ := h
  obtain ⟨t, rfl⟩ := rx
  obtain ⟨t', rfl⟩ := ry
  refine PySem.P.mul_str (by rw [decide_eq_false (by omega), decide_eq_false (by omega)]; rfl) (fun w _ => ?_) (fun w _ => ?_) ?_
  · have : (a.length : Int) ≤ 1000 := by omega
    have hq : (9223372036854775807 : Int) / 1000 ≤ (2 ^ 63 - 1) / n := by
      refine Int.le_ediv_of_mul_le (by omega) ?_
      have : (9223372036854775807 : Int) / 1000 * n ≤ 9223372036854775 * 1000 := Int.mul_le_mul (by decide) h1 h0 (by decide)
      omega
    have : (9223372036854775807 : Int) / 1000 = 9223372036854775 := by decide
    omega
  · refine PyProof.Rows.short24 ?_
    have : a.length * n.toNat ≤ 1000 * 1000 := Nat.mul_le_mul h2 (by omega)
    omega
  · have len_rep : ∀ m : Nat, m ≤ 1000 → (repS a m).length ≤ 1000000 := fun m hm => by
      rw [repS_len]
      have : m * a.length ≤ 1000 * 1000 := Nat.mul_le_mul hm h2
      omega
    by_cases w : n < 1
    · rw [if_pos w]
      have e : n = 0 := by omega
      subst e
      exact ⟨by decide, .str _, H, I.tok _, ⟨_, rfl⟩, q⟩
    · rw [if_neg w]
      by_cases w2 : (n == 1 || a.length == 0) = true
      · rw [if_pos w2]
        have e : repS a n.toNat = a := by
          rcases Bool.or_eq_true_iff.mp w2 with w3 | w3
          · have : n = 1 := by simpa using w3
            subst this
            exact repS_one a
          · exact repS_nil (by simpa using w3) _
        rw [e] at q
        exact ⟨.str a, H, I, ⟨t, rfl⟩, q⟩
      · rw [if_neg w2]
        refine ⟨?_, .str (repS a n.toNat), H, I.tok _, ⟨_, rfl⟩, q⟩
        have := len_rep n.toNat (by omega)
        show (repS a n.toNat).length ≤ sizeLine
        rw [sizeLine_eq]
        omega
def oMulS : R2d := fun x y Q => match x, y with
  | .str a, .int n => (0 ≤ n ∧ n ≤ 1000 ∧ a.length ≤ 1000) ∧ Q (.str (repS a n.toNat))
  | _, _ => False
theorem o_mulS {K : PySem.W.Frag} : OpRd X K (binaryOp .Mult) oMulS := by
  refine ⟨_, op_mulS, fun F H x y dx dy Q Qd s r q z k => ?_⟩
  unfold oMulS at z
  split at z
  · cases r
    cases q
    exact ⟨_, _, rfl, rfl, z.1, k _ _ _ _ (Grow.refl s) (.str _) z.2⟩
  · exact z.elim
end
end DL

/-! text GA -/
set_option Elab.async false
set_option linter.all false
set_option maxRecDepth 100000
set_option maxHeartbeats 4000000
namespace DL
open PySem PySem.Spec PyProof.Rows L2 RZ
/-! ### games and their turns, in plain Lean -/
structure Gm where
  ring : Bool
  many : Int
  far : Int
  quick : Int
  al : Bool
def shapeS (b : Bool) : Str := if b then "ring" else "path"
def sightS (b : Bool) : Str := if b then "always" else "never"
def gameF (s m f q t : D) : List (Str × D) := [(("form_of" : Str), s), (("many" : Str), m), (("far" : Str), f), (("quick" : Str), q), (("seen" : Str), t)]
def gameD (k : Kx) (g : Gm) : D := .ins (k.cl "Game") (gameF (.str (shapeS g.ring)) (.int g.many) (.int g.far) (.int g.quick) (.str (sightS g.al)))
structure Gm.Ok (g : Gm) : Prop where
  m1 : 1 ≤ g.many
  m6 : g.many ≤ 6
  f1 : 1 ≤ g.far
  f5 : g.far ≤ 5
  q0 : 0 ≤ g.quick
  q5 : g.quick ≤ 5
  told : ¬ (g.ring = true ∧ g.al = false ∧ 1 < g.many ∧ g.many % 2 = 1)
def optD : Option Int → D
  | none => .non
  | some i => .int i
def upI (a b : Int) : Int := -((-a) / b)
def roundT (far quick away : Int) : Option Int := if away ≤ far then some 1 else if quick < far then some (upI (away - quick) (far - quick)) else none
def aloneT (far quick : Int) (al : Bool) (n : Int) : Option Int := if n = 1 then some 0 else roundT far quick (if al = true then n / 2 else n - 1)
def sidesI (al : Bool) : Int := if al = true then 2 else 1
def turnsO (g : Gm) (n : Int) : Option Int := if g.ring = true ∧ g.many = 1 then aloneT g.far g.quick g.al n else some (upI (max 0 (n - g.many)) (sidesI g.al * g.many * g.far))
def everB (g : Gm) : Bool := !g.ring || decide (1 < g.many) || decide (g.quick < g.far)
def periodI (g : Gm) : Int := if g.ring = true ∧ g.many = 1 then (g.far - g.quick) * sidesI g.al else g.many * g.far * sidesI g.al
def wholeI (g h : Gm) : Int :=
  let w := if everB g = true then periodI g else 1
  if everB h = true then w / (Int.gcd w (periodI h) : Int) * periodI h else w
def gainO (g : Gm) (w : Int) : Option Int := if everB g = true then some (w / periodI g) else none
def slowerB (g h : Gm) (n : Int) : Bool := match turnsO g n, turnsO h n with
  | none, none => false
  | none, some _ => true
  | some _, none => false
  | some a, some b => decide (b < a)
/-! ### promises -/
def okV (x : D) : Prop := ∃ n, tyN x = some n
def isIntD : D → Bool
  | .int _ => true
  | _ => false
def fromD (x : D) (lo hi : Int) : Bool := match x with
  | .int i => decide (lo ≤ i) && decide (i ≤ hi)
  | _ => false
def oneD (x : D) (l : List D) : Bool := match x with
  | .str _ => inD x l
  | _ => false
def shapesD : List D := [.str "path", .str "ring"]
def sightsD : List D := [.str "always", .str "never"]
def g_is_integer (k : Kx) : Gd := pureG fun ds Q X => ∃ x, ds = [x] ∧ okV x ∧ Q (.bl (isIntD x))
def g_is_from (k : Kx) : Gd := pureG fun ds Q X => ∃ x lo hi, ds = [x, .int lo, .int hi] ∧ okV x ∧ Q (.bl (fromD x lo hi))
def g_is_one_of (k : Kx) : Gd := pureG fun ds Q X => ∃ x l, ds = [x, .tup l] ∧ okV x ∧ l.all flatD = true ∧ Q (.bl (oneD x l))
def untoldB (s : Str) (c : Int) (t : Str) : Bool := decide (s = "ring") && (decide (t = "never") && (decide (1 < c) && decide (c % 2 = 1)))
def g_is_untold (k : Kx) : Gd := pureG fun ds Q X => ∃ s c t, ds = [.str s, .int c, .str t] ∧ Q (.bl (untoldB s c t))
/-- the first error of values handed to Game -/
def gameErr (s m f q t : D) : Option String :=
  if oneD s shapesD = false then some "BadShape" else if fromD m 1 6 = false then some "BadCatchers" else if fromD f 1 5 = false then some "BadReach" else if fromD q 0 5 = false then some "BadFlight" else if oneD t sightsD = false then some "BadSight" else
  match s, m, t with
  | .str s, .int m, .str t => if untoldB s m t = true then some "BadCatchers" else none
  | _, _, _ => none
def fvF (s m f q t : D) : List (Str × Fv) := [(("form_of" : Str), .d s), (("many" : Str), .d m), (("far" : Str), .d f), (("quick" : Str), .d q), (("seen" : Str), .d t)]
def g_Game_init (k : Kx) : Gd := fun ps π R RX => ∃ s m f q t, ps = [.par 0, .d s, .d m, .d f, .d q, .d t] ∧ π = [.ins (k.cl "Game") []] ∧ (okV s ∧ okV m ∧ okV f ∧ okV q ∧ okV t) ∧
  match gameErr s m f q t with
  | some e => k.ex = true ∧ RX ⟨k.cl e, none⟩ [.ins (k.cl "Game") []]
  | none => R (.d .non) [.ins (k.cl "Game") (fvF s m f q t)]
/-- what the text says of the class Game -/
structure GmK (k : Kx) : Prop where
  cl : Cls k.K (k.cl "Game")
  n1 : NoAttr k.K (k.cl "Game") "form_of"
  n2 : NoAttr k.K (k.cl "Game") "many"
  n3 : NoAttr k.K (k.cl "Game") "far"
  n4 : NoAttr k.K (k.cl "Game") "quick"
  n5 : NoAttr k.K (k.cl "Game") "seen"
def g_up (k : Kx) : Gd := pureG fun ds Q X => ∃ a b, ds = [.int a, .int b] ∧ 0 < b ∧ b < 2 ^ 3000 ∧ Q (.int (upI a b))
def g_round_turns (k : Kx) : Gd := pureG fun ds Q X => ∃ f q a, ds = [.int f, .int q, .int a] ∧ (1 ≤ f ∧ f ≤ 5 ∧ 0 ≤ q) ∧ Q (optD (roundT f q a))
def g_alone_turns (k : Kx) : Gd := pureG fun ds Q X => ∃ f q al n, ds = [.int f, .int q, .str (sightS al), .int n] ∧ (1 ≤ f ∧ f ≤ 5 ∧ 0 ≤ q) ∧ Q (optD (aloneT f q al n))
def g_turns_of (k : Kx) : Gd := pureG fun ds Q X => ∃ g n, ds = [gameD k g, .int n] ∧ g.Ok ∧ Q (optD (turnsO g n))
def g_check_number (k : Kx) : Gd := pureG fun ds Q X => ∃ n hi, ds = [n, .int hi] ∧ okV n ∧ if fromD n 1 hi = true then Q .non else (k.ex = true ∧ X ⟨k.cl "BadNumber", none⟩)
def greatI : Int := 1000000000000000000000000000000
def g_turns (k : Kx) : Gd := pureG fun ds Q X => ∃ g n, ds = [gameD k g, n] ∧ g.Ok ∧ okV n ∧ match n with
  | .int i => if 1 ≤ i ∧ i ≤ greatI then Q (optD (turnsO g i)) else (k.ex = true ∧ X ⟨k.cl "BadNumber", none⟩)
  | _ => k.ex = true ∧ X ⟨k.cl "BadNumber", none⟩
def g_divisor (k : Kx) : Gd := pureG fun ds Q X => ∃ a b : Nat, ds = [.int a, .int b] ∧ Q (.int (Nat.gcd a b))
def g_period_of (k : Kx) : Gd := pureG fun ds Q X => ∃ g, ds = [gameD k g] ∧ g.Ok ∧ Q (.int (periodI g))
def g_is_ever (k : Kx) : Gd := pureG fun ds Q X => ∃ g, ds = [gameD k g] ∧ Q (.bl (everB g))
def g_bounds (k : Kx) : Gd := pureG fun ds Q X => ∃ g h, ds = [gameD k g, gameD k h] ∧ g.Ok ∧ h.Ok ∧ Q (.tup [.int 12, .int (wholeI g h)])
def g_gain_of (k : Kx) : Gd := pureG fun ds Q X => ∃ g w, ds = [gameD k g, .int w] ∧ g.Ok ∧ Q (optD (gainO g w))
/-- the least number of posts at which the turns are unlike -/
def IsPart (g h : Gm) : Option Int → Prop
  | some n => 1 ≤ n ∧ turnsO g n ≠ turnsO h n ∧ ∀ m, 1 ≤ m → m < n → turnsO g m = turnsO h m
  | none => ∀ m, 1 ≤ m → turnsO g m = turnsO h m
def g_parting (k : Kx) : Gd := pureG fun ds Q X => ∃ g h, ds = [gameD k g, gameD k h] ∧ g.Ok ∧ h.Ok ∧ ∀ r, IsPart g h r → Q (optD r)
def g_alike (k : Kx) : Gd := pureG fun ds Q X => ∃ g h, ds = [gameD k g, gameD k h] ∧ g.Ok ∧ h.Ok ∧ ∀ b : Bool, (b = true ↔ ∀ m, 1 ≤ m → turnsO g m = turnsO h m) → Q (.bl b)
def g_is_slower (k : Kx) : Gd := pureG fun ds Q X => ∃ g h n, ds = [gameD k g, gameD k h, .int n] ∧ g.Ok ∧ h.Ok ∧ Q (.bl (slowerB g h n))
def g_never_slower (k : Kx) : Gd := pureG fun ds Q X => ∃ g h, ds = [gameD k g, gameD k h] ∧ g.Ok ∧ h.Ok ∧ ∀ b : Bool, (b = true ↔ ∀ m, 1 ≤ m → slowerB g h m = false) → Q (.bl b)
/-- the first error of values handed on as parts of a game -/
def partsErr (s f q t : D) : Option String :=
  if oneD s shapesD = false then some "BadShape" else if fromD f 1 5 = false then some "BadReach" else if fromD q 0 5 = false then some "BadFlight" else if oneD t sightsD = false then some "BadSight" else none
def g_check_parts (k : Kx) : Gd := pureG fun ds Q X => ∃ s f q t, ds = [s, f, q, t] ∧ (okV s ∧ okV f ∧ okV q ∧ okV t) ∧ match partsErr s f q t with
  | some e => k.ex = true ∧ X ⟨k.cl e, none⟩
  | none => Q .non
def fewestI (ring : Bool) (f q : Int) : Int := if ring = false ∨ q < f then 1 else 2
def g_fewest (k : Kx) : Gd := pureG fun ds Q X => ∃ s f q t, ds = [s, f, q, t] ∧ (okV s ∧ okV f ∧ okV q ∧ okV t) ∧ match partsErr s f q t with
  | some e => k.ex = true ∧ X ⟨k.cl e, none⟩
  | none => ∀ b i j, s = .str (shapeS b) → f = .int i → q = .int j → Q (.int (fewestI b i j))
/-- the turns of 1, 2, .. n posts -/
def turnsL (g : Gm) (n : Nat) : List D := (List.range n).map fun i : Nat => optD (turnsO g (1 + i))
/-- what form gives -/
inductive FormOk (g : Gm) : D → Prop
  | never (f : Int) (e : everB g = false) (f2 : 2 ≤ f) (fn : turnsO g f = none) (fs : ∀ m, 2 ≤ m → m < f → turnsO g m ≠ none) : FormOk g (.tup [.str "never", .int f, .tup (turnsL g (f - 1).toNat)])
  | turns (s : Int) (e : everB g = true) (s0 : 0 ≤ s) (s12 : s ≤ 12) (hs : ∀ j t, s < j → j ≤ 12 → turnsO g j = some t → turnsO g (j + periodI g) = some (t + 1)) (hn : s = 0 ∨ ∀ t, turnsO g s = some t → turnsO g (s + periodI g) ≠ some (t + 1)) :
      FormOk g (.tup [.str "turns", .int (s + 1), .int (periodI g), .int 1, .tup (turnsL g (s + periodI g).toNat)])
def g_form (k : Kx) : Gd := pureG fun ds Q X => ∃ g, ds = [gameD k g] ∧ g.Ok ∧ ∀ r, FormOk g r → Q r
/-! ### the law's own defs that all laws share -/
def gp_draws : List Sl → List OD → (Rv → List OD → Prop) → Prop := fun ps π R => ∃ ns : List Int, ps = [.d (.scr ns)] ∧ π = [] ∧ (∀ n ∈ ns, n.natAbs < 2 ^ 1048577) ∧ R (.own (rowL ns 0 0 7)) []
def g_law_draws (k : Kx) : Gd := mkG gp_draws
def gp_pick : List Int → Int → Int → Int → List Sl → (Rv → List OD → Prop) → Prop := fun ns i r2 r3 ps R => ∃ n : Int, ps = [.par 0, .d (.int n)] ∧ 0 < n ∧ n < 2 ^ 3000 ∧ RowOk ns i r2 r3 ∧
  ∀ r i' r2' r3', 0 ≤ r → r < n → RowOk ns i' r2' r3' → R (.d (.int r)) [rowL ns i' r2' r3']
def g_law_pick (k : Kx) : Gd := rowG gp_pick
/-- a drawn game, as the law's dict -/
def lawGD (g : Gm) : List (Key × D) := [(.inr "shape", .str (shapeS g.ring)), (.inr "many", .int g.many), (.inr "far", .int g.far), (.inr "quick", .int g.quick), (.inr "seen", .str (sightS g.al))]
def g_law_drawn (k : Kx) : Gd := fun ps π R RX => ∃ m f : Int, ps = [.par 0, .d (.int m), .d (.int f)] ∧ π = [.row] ∧ 1 ≤ m ∧ m ≤ 6 ∧ 1 ≤ f ∧ f ≤ 5 ∧ ∀ g : Gm, g.Ok → g.many ≤ m → g.far ≤ f → R (.own (.dic (lawGD g))) [.row]
def g_law_made (k : Kx) : Gd := pureG fun ds Q X => ∃ g, ds = [.dic (lawGD g)] ∧ g.Ok ∧ Q (gameD k g)
def moreB (a b : Option Int) : Bool := match a, b with
  | none, none => false
  | none, some _ => true
  | some _, none => false
  | some a, some b => decide (b < a)
def g_law_is_more (k : Kx) : Gd := pureG fun ds Q X => ∃ a b, ds = [optD a, optD b] ∧ Q (.bl (moreB a b))
end DL

/-! text TA -/
set_option Elab.async false
set_option linter.all false
set_option maxRecDepth 100000
set_option maxHeartbeats 4000000
/-! Readings, printed by gen.py. -/
namespace DL
open PySem PySem.Spec PyProof.Rows L2 RZ
/-- _law_pick: 0 _law_row 1 _law_many 2 _law_cell 3 _law_found -/
def t_law_pick (k : Kx) (RX : RXd) : TSd :=
  (dSeq (dIfS (dT (dOp oEq (dIxT 0 (dC (.int 2))) (dC (.int 0)))) (dIfS (dT (dOp oLt (dIxT 0 (dC (.int 1))) (dCB rLen (dCons (dIxT 0 (dC (.int 0))) dNil)))) (dSeq (dSet 2 (dOp oIx (dIxT 0 (dC (.int 0))) (dIxT 0 (dC (.int 1))))) (dSeq (dStT 0 (dOp oAdd (dIxT 0 (dC (.int 1))) (dC (.int 1))) (dC (.int 1))) (dIfS (dT (dOp oGe (dVar 2) (dOp oPow (dC (.int 10)) (dC (.int 18))))) (dStT 0 (dVar 2) (dC (.int 2))) (dStT 0 (dOp oMod (dCB rInt (dCons (dOp oAdd (dOp oAdd (dOp oMul (dIxT 0 (dC (.int 3))) (dC (.int 48271))) (dOp oMul (dVar 2) (dC (.int 69621)))) (dC (.int 11))) dNil)) (dC (.int 2147483647))) (dC (.int 3)))))) (dStT 0 (dOp oMod (dCB rInt (dCons (dOp oAdd (dOp oMul (dIxT 0 (dC (.int 3))) (dC (.int 48271))) (dC (.int 7))) dNil)) (dC (.int 2147483647))) (dC (.int 3)))) dNext) (dSeq (dIfS (dT (dOp oGt (dIxT 0 (dC (.int 2))) (dC (.int 0)))) (dSeq (dSet 3 (dOp oMod (dCB rInt (dCons (dIxT 0 (dC (.int 2))) dNil)) (dVar 1))) (dSeq (dStT 0 (dOp oDiv (dIxT 0 (dC (.int 2))) (dVar 1)) (dC (.int 2))) (dRet (dVar 3)))) dNext) (dRet (dOp oMod (dOp oMod (dCB rInt (dCons (dOp oMul (dIxT 0 (dC (.int 3))) (dC (.int 16807))) dNil)) (dC (.int 2147483629))) (dVar 1)))))
/-- _law_drawn: 0 _law_row 1 _law_most 2 _law_far 3 _law_g -/
def t_law_drawn (k : Kx) (RX : RXd) : TSd :=
  (dSeq (dSetO 3 (dDispO [((dC (.str "shape")), (dOp oIx (dLst (dCons (dC (.str "path")) (dCons (dC (.str "ring")) dNil))) (dCall1 0 (g_law_pick k) (dCons (dC (.int 2)) dNil)))), ((dC (.str "many")), (dOp oAdd (dC (.int 1)) (dCall1 0 (g_law_pick k) (dCons (dVar 1) dNil))))])) (dSeq (dAsg (dTup (dCons (dOp oAdd (dC (.int 1)) (dCall1 0 (g_law_pick k) (dCons (dVar 2) dNil))) (dCons (dCall1 0 (g_law_pick k) (dCons (dC (.int 6)) dNil)) dNil))) (gT 2 (gsCons (gPut 3 (dC (.str "far"))) (gsCons (gPut 3 (dC (.str "quick"))) gsNil)))) (dSeq (dAsg (dOp oIx (dLst (dCons (dC (.str "always")) (dCons (dC (.str "never")) dNil))) (dCall1 0 (g_law_pick k) (dCons (dC (.int 2)) dNil))) (gPut 3 (dC (.str "seen")))) (dSeq (dIfS ((dAnd (dT (dOp oEq (dGetO 3 (dC (.str "shape"))) (dC (.str "ring")))) (dAnd (dT (dOp oEq (dGetO 3 (dC (.str "seen"))) (dC (.str "never")))) (dT (dOp oIn (dGetO 3 (dC (.str "many"))) (dLst (dCons (dC (.int 3)) (dCons (dC (.int 5)) dNil)))))))) (dAsg (dOp oSub (dGetO 3 (dC (.str "many"))) (dC (.int 1))) (gPut 3 (dC (.str "many")))) dNext) (dRetO (dVarO 3))))))
/-- _law_draws: 0 _law_script -/
def t_law_draws (k : Kx) (RX : RXd) : TSd :=
  (dRetO (dLstO (dCons (dCB rList (dCons (dVar 0) dNil)) (dCons (dC (.int 0)) (dCons (dC (.int 0)) (dCons (dC (.int 7)) dNil))))))
/-- _law_is_more: 0 _law_here 1 _law_there -/
def t_law_is_more (k : Kx) (RX : RXd) : TSd :=
  (dSeq (dIfS ((dOr (dT (dOp oIs (dVar 0) (dC .non))) (dT (dOp oIs (dVar 1) (dC .non))))) (dRet (dAndV (dOp oIs (dVar 0) (dC .non)) (dOp oIsNot (dVar 1) (dC .non)))) dNext) (dRet (dOp oGt (dVar 0) (dVar 1))))
/-- is_integer: 0 value -/
def t_is_integer (k : Kx) (RX : RXd) : TSd :=
  (dRet (dAndV (dCB (rIsiD k.K) (dCons (dVar 0) (dCons (dC (.ty "int")) dNil))) (dNotV (dCB (rIsiD k.K) (dCons (dVar 0) (dCons (dC (.ty "bool")) dNil))))))
/-- is_from: 0 value 1 low 2 high -/
def t_is_from (k : Kx) (RX : RXd) : TSd :=
  (dRet (dAndV (dCall (g_is_integer k) RX (dCons (dVar 0) dNil)) (dChain oLe oLe (dVar 1) (dVar 0) (dVar 2))))
/-- is_one_of: 0 value 1 some -/
def t_is_one_of (k : Kx) (RX : RXd) : TSd :=
  (dRet (dAndV (dCB (rIsiD k.K) (dCons (dVar 0) (dCons (dC (.ty "str")) dNil))) (dOp oIn (dVar 0) (dVar 1))))
/-- is_untold: 0 shape 1 catchers 2 sight -/
def t_is_untold (k : Kx) (RX : RXd) : TSd :=
  (dRet (dAndV (dOp oEq (dVar 0) (dC (.str "ring"))) (dAndV (dOp oEq (dVar 2) (dC (.str "never"))) (dAndV (dOp oGt (dVar 1) (dC (.int 1))) (dOp oEq (dOp oMod (dVar 1) (dC (.int 2))) (dC (.int 1)))))))
/-- Game.__init__: 0 self 1 shape 2 catchers 3 reach 4 flight 5 sight -/
def t_Game_init (k : Kx) (RX : RXd) : TSd :=
  (dSeq (dIfS (dNot (dT (dCall (g_is_one_of k) RX (dCons (dVar 1) (dCons (dC (.tup [(.str "path"), (.str "ring")])) dNil))))) (dRz k "BadShape" RX) dNext) (dSeq (dIfS (dNot (dT (dCall (g_is_from k) RX (dCons (dVar 2) (dCons (dC (.int 1)) (dCons (dC (.int 6)) dNil)))))) (dRz k "BadCatchers" RX) dNext) (dSeq (dIfS (dNot (dT (dCall (g_is_from k) RX (dCons (dVar 3) (dCons (dC (.int 1)) (dCons (dC (.int 5)) dNil)))))) (dRz k "BadReach" RX) dNext) (dSeq (dIfS (dNot (dT (dCall (g_is_from k) RX (dCons (dVar 4) (dCons (dC (.int 0)) (dCons (dC (.int 5)) dNil)))))) (dRz k "BadFlight" RX) dNext) (dSeq (dIfS (dNot (dT (dCall (g_is_one_of k) RX (dCons (dVar 5) (dCons (dC (.tup [(.str "always"), (.str "never")])) dNil))))) (dRz k "BadSight" RX) dNext) (dSeq (dIfS (dT (dCall (g_is_untold k) RX (dCons (dVar 1) (dCons (dVar 2) (dCons (dVar 5) dNil))))) (dRz k "BadCatchers" RX) dNext) (dSeq (dFldP k.K 0 (dVar 1) "form_of") (dSeq (dFldP k.K 0 (dVar 2) "many") (dSeq (dFldP k.K 0 (dVar 3) "far") (dSeq (dFldP k.K 0 (dVar 4) "quick") (dFldP k.K 0 (dVar 5) "seen")))))))))))
/-- _law_made: 0 _law_g -/
def t_law_made (k : Kx) (RX : RXd) : TSd :=
  (dRet (dStill (dMakeO (k.cl "Game") (g_Game_init k) RX (dCons (dGet (dVar 0) (dC (.str "shape"))) (dCons (dGet (dVar 0) (dC (.str "many"))) (dCons (dGet (dVar 0) (dC (.str "far"))) (dCons (dGet (dVar 0) (dC (.str "quick"))) (dCons (dGet (dVar 0) (dC (.str "seen"))) dNil))))))))
/-- divisor: 0 one 1 other -/
def t_divisor (k : Kx) (RX : RXd) : TSd :=
  (dSeq (dWhile (dT (dOp oNe (dVar 1) (dC (.int 0)))) (dPar 0 1 (rD (dVar 1)) (rD (dOp oMod (dVar 0) (dVar 1))))) (dRet (dVar 0)))
/-- is_ever: 0 game -/
def t_is_ever (k : Kx) (RX : RXd) : TSd :=
  (dRet (dOrV (dOp oEq (dFld k.K "form_of" (dVar 0)) (dC (.str "path"))) (dOrV (dOp oGt (dFld k.K "many" (dVar 0)) (dC (.int 1))) (dOp oGt (dFld k.K "far" (dVar 0)) (dFld k.K "quick" (dVar 0))))))
/-- period_of: 0 game -/
def t_period_of (k : Kx) (RX : RXd) : TSd :=
  (dSeq (dIfS ((dAnd (dT (dOp oEq (dFld k.K "form_of" (dVar 0)) (dC (.str "ring")))) (dT (dOp oEq (dFld k.K "many" (dVar 0)) (dC (.int 1)))))) (dRet (dOp oMul (dOp oSub (dFld k.K "far" (dVar 0)) (dFld k.K "quick" (dVar 0))) (dIf (dT (dOp oEq (dFld k.K "seen" (dVar 0)) (dC (.str "always")))) (dC (.int 2)) (dC (.int 1))))) dNext) (dRet (dOp oMul (dOp oMul (dFld k.K "many" (dVar 0)) (dFld k.K "far" (dVar 0))) (dIf (dT (dOp oEq (dFld k.K "seen" (dVar 0)) (dC (.str "always")))) (dC (.int 2)) (dC (.int 1))))))
/-- bounds: 0 one 1 other 2 whole 3 game 4 period -/
def t_bounds (k : Kx) (RX : RXd) : TSd :=
  (dSeq (dSet 2 (dC (.int 1))) (dSeq (dFor (iTup (dTup (dCons (dVar 0) (dCons (dVar 1) dNil)))) (gN 3) (dIfS (dT (dCall (g_is_ever k) RX (dCons (dVar 3) dNil))) (dSeq (dSet 4 (dCall (g_period_of k) RX (dCons (dVar 3) dNil))) (dSet 2 (dOp oMul (dOp oDiv (dVar 2) (dCall (g_divisor k) RX (dCons (dVar 2) (dCons (dVar 4) dNil)))) (dVar 4)))) dNext)) (dRet (dTup (dCons (dC (.int 12)) (dCons (dVar 2) dNil))))))
/-- gain_of: 0 game 1 whole -/
def t_gain_of (k : Kx) (RX : RXd) : TSd :=
  (dRet (dIf (dT (dCall (g_is_ever k) RX (dCons (dVar 0) dNil))) (dOp oDiv (dVar 1) (dCall (g_period_of k) RX (dCons (dVar 0) dNil))) (dC .non)))
/-- up: 0 top 1 bottom -/
def t_up (k : Kx) (RX : RXd) : TSd :=
  (dRet (dUn oNeg (dOp oDiv (dUn oNeg (dVar 0)) (dVar 1))))
/-- round_turns: 0 far 1 quick 2 away -/
def t_round_turns (k : Kx) (RX : RXd) : TSd :=
  (dSeq (dIfS (dT (dOp oLe (dVar 2) (dVar 0))) (dRet (dC (.int 1))) dNext) (dRet (dIf (dT (dOp oGt (dVar 0) (dVar 1))) (dCall (g_up k) RX (dCons (dOp oSub (dVar 2) (dVar 1)) (dCons (dOp oSub (dVar 0) (dVar 1)) dNil))) (dC .non))))
/-- alone_turns: 0 far 1 quick 2 seen 3 n -/
def t_alone_turns (k : Kx) (RX : RXd) : TSd :=
  (dSeq (dIfS (dT (dOp oEq (dVar 3) (dC (.int 1)))) (dRet (dC (.int 0))) dNext) (dRet (dCall (g_round_turns k) RX (dCons (dVar 0) (dCons (dVar 1) (dCons (dIf (dT (dOp oEq (dVar 2) (dC (.str "always")))) (dOp oDiv (dVar 3) (dC (.int 2))) (dOp oSub (dVar 3) (dC (.int 1)))) dNil))))))
/-- turns_of: 0 game 1 n 2 sides -/
def t_turns_of (k : Kx) (RX : RXd) : TSd :=
  (dSeq (dIfS ((dAnd (dT (dOp oEq (dFld k.K "form_of" (dVar 0)) (dC (.str "ring")))) (dT (dOp oEq (dFld k.K "many" (dVar 0)) (dC (.int 1)))))) (dRet (dCall (g_alone_turns k) RX (dCons (dFld k.K "far" (dVar 0)) (dCons (dFld k.K "quick" (dVar 0)) (dCons (dFld k.K "seen" (dVar 0)) (dCons (dVar 1) dNil)))))) dNext) (dSeq (dSet 2 (dIf (dT (dOp oEq (dFld k.K "seen" (dVar 0)) (dC (.str "always")))) (dC (.int 2)) (dC (.int 1)))) (dRet (dCall (g_up k) RX (dCons (dCB rMax2 (dCons (dC (.int 0)) (dCons (dOp oSub (dVar 1) (dFld k.K "many" (dVar 0))) dNil))) (dCons (dOp oMul (dOp oMul (dVar 2) (dFld k.K "many" (dVar 0))) (dFld k.K "far" (dVar 0))) dNil))))))
/-- parting: 0 one 1 other 2 start 3 whole 4 n -/
def t_parting (k : Kx) (RX : RXd) : TSd :=
  (dSeq (dAsg (dCall (g_bounds k) RX (dCons (dVar 0) (dCons (dVar 1) dNil))) (gT 2 (gsCons (gN 2) (gsCons (gN 3) gsNil)))) (dSeq (dFor (iR2 (dC (.int 1)) (dOp oAdd (dOp oAdd (dVar 2) (dVar 3)) (dC (.int 1)))) (gN 4) (dIfS (dT (dOp oNe (dCall (g_turns_of k) RX (dCons (dVar 0) (dCons (dVar 4) dNil))) (dCall (g_turns_of k) RX (dCons (dVar 1) (dCons (dVar 4) dNil))))) (dRet (dVar 4)) dNext)) (dSeq (dIfS (dT (dOp oEq (dCall (g_gain_of k) RX (dCons (dVar 0) (dCons (dVar 3) dNil))) (dCall (g_gain_of k) RX (dCons (dVar 1) (dCons (dVar 3) dNil))))) (dRet (dC .non)) dNext) (dSeq (dSet 4 (dOp oAdd (dOp oAdd (dVar 2) (dVar 3)) (dC (.int 1)))) (dSeq (dWhile (dT (dOp oEq (dCall (g_turns_of k) RX (dCons (dVar 0) (dCons (dVar 4) dNil))) (dCall (g_turns_of k) RX (dCons (dVar 1) (dCons (dVar 4) dNil))))) (dAug 4 oIAdd (dC (.int 1)))) (dRet (dVar 4)))))))
/-- alike: 0 one 1 other -/
def t_alike (k : Kx) (RX : RXd) : TSd :=
  (dRet (dOp oIs (dCall (g_parting k) RX (dCons (dVar 0) (dCons (dVar 1) dNil))) (dC .non)))
/-- check_parts: 0 shape 1 reach 2 flight 3 sight -/
def t_check_parts (k : Kx) (RX : RXd) : TSd :=
  (dSeq (dIfS (dNot (dT (dCall (g_is_one_of k) RX (dCons (dVar 0) (dCons (dC (.tup [(.str "path"), (.str "ring")])) dNil))))) (dRz k "BadShape" RX) dNext) (dSeq (dIfS (dNot (dT (dCall (g_is_from k) RX (dCons (dVar 1) (dCons (dC (.int 1)) (dCons (dC (.int 5)) dNil)))))) (dRz k "BadReach" RX) dNext) (dSeq (dIfS (dNot (dT (dCall (g_is_from k) RX (dCons (dVar 2) (dCons (dC (.int 0)) (dCons (dC (.int 5)) dNil)))))) (dRz k "BadFlight" RX) dNext) (dIfS (dNot (dT (dCall (g_is_one_of k) RX (dCons (dVar 3) (dCons (dC (.tup [(.str "always"), (.str "never")])) dNil))))) (dRz k "BadSight" RX) dNext))))
/-- fewest: 0 shape 1 reach 2 flight 3 sight -/
def t_fewest (k : Kx) (RX : RXd) : TSd :=
  (dSeq (dDrop (dCall (g_check_parts k) RX (dCons (dVar 0) (dCons (dVar 1) (dCons (dVar 2) (dCons (dVar 3) dNil)))))) (dRet (dIf ((dOr (dT (dOp oEq (dVar 0) (dC (.str "path")))) (dT (dOp oGt (dVar 1) (dVar 2))))) (dC (.int 1)) (dC (.int 2)))))
/-- form: 0 game 1 first 2 period 3 numbers 4 start 5 n -/
def t_form (k : Kx) (RX : RXd) : TSd :=
  (dSeq (dIfS (dNot (dT (dCall (g_is_ever k) RX (dCons (dVar 0) dNil)))) (dSeq (dSet 1 (dC (.int 2))) (dSeq (dWhile (dT (dOp oIsNot (dCall (g_turns_of k) RX (dCons (dVar 0) (dCons (dVar 1) dNil))) (dC .non))) (dAug 1 oIAdd (dC (.int 1)))) (dRet (dTup (dCons (dC (.str "never")) (dCons (dVar 1) (dCons (dCB rTuple (dCons (dLc (iR2 (dC (.int 1)) (dVar 1)) (gN 5) dYes (dCall (g_turns_of k) noRX (dCons (dVar 0) (dCons (dVar 5) dNil))) [5]) dNil)) dNil))))))) dNext) (dSeq (dSet 2 (dCall (g_period_of k) RX (dCons (dVar 0) dNil))) (dSeq (dSet 3 (dLc (iR2 (dC (.int 1)) (dOp oAdd (dOp oAdd (dC (.int 12)) (dOp oMul (dC (.int 2)) (dVar 2))) (dC (.int 1)))) (gN 5) dYes (dCall (g_turns_of k) noRX (dCons (dVar 0) (dCons (dVar 5) dNil))) [5])) (dSeq (dSet 4 (dC (.int 12))) (dSeq (dWhile ((dAnd (dT (dOp oGt (dVar 4) (dC (.int 0)))) (dT (dOp oEq (dOp oIx (dVar 3) (dOp oAdd (dOp oSub (dVar 4) (dC (.int 1))) (dVar 2))) (dOp oAdd (dOp oIx (dVar 3) (dOp oSub (dVar 4) (dC (.int 1)))) (dC (.int 1))))))) (dAug 4 oISub (dC (.int 1)))) (dRet (dTup (dCons (dC (.str "turns")) (dCons (dOp oAdd (dVar 4) (dC (.int 1))) (dCons (dVar 2) (dCons (dC (.int 1)) (dCons (dCB rTuple (dCons (dSlH (dVar 3) (dOp oAdd (dVar 4) (dVar 2))) dNil)) dNil))))))))))))
/-- is_slower: 0 one 1 other 2 n 3 here 4 there -/
def t_is_slower (k : Kx) (RX : RXd) : TSd :=
  (dSeq (dPar 3 4 (rD (dCall (g_turns_of k) RX (dCons (dVar 0) (dCons (dVar 2) dNil)))) (rD (dCall (g_turns_of k) RX (dCons (dVar 1) (dCons (dVar 2) dNil))))) (dSeq (dIfS ((dOr (dT (dOp oIs (dVar 3) (dC .non))) (dT (dOp oIs (dVar 4) (dC .non))))) (dRet (dAndV (dOp oIs (dVar 3) (dC .non)) (dOp oIsNot (dVar 4) (dC .non)))) dNext) (dRet (dOp oGt (dVar 3) (dVar 4)))))
/-- never_slower: 0 one 1 other 2 start 3 whole 4 n -/
def t_never_slower (k : Kx) (RX : RXd) : TSd :=
  (dSeq (dAsg (dCall (g_bounds k) RX (dCons (dVar 0) (dCons (dVar 1) dNil))) (gT 2 (gsCons (gN 2) (gsCons (gN 3) gsNil)))) (dSeq (dIfS (dT (dCB rAnyD (dCons (dLc (iR2 (dC (.int 1)) (dOp oAdd (dOp oAdd (dVar 2) (dVar 3)) (dC (.int 1)))) (gN 4) dYes (dCall (g_is_slower k) noRX (dCons (dVar 0) (dCons (dVar 1) (dCons (dVar 4) dNil)))) [4]) dNil))) (dRet (dC (.bl false))) dNext) (dSeq (dIfS ((dOr (dNot (dT (dCall (g_is_ever k) RX (dCons (dVar 0) dNil)))) (dNot (dT (dCall (g_is_ever k) RX (dCons (dVar 1) dNil)))))) (dRet (dOrV (dCall (g_is_ever k) RX (dCons (dVar 0) dNil)) (dNotV (dCall (g_is_ever k) RX (dCons (dVar 1) dNil))))) dNext) (dRet (dOp oLe (dCall (g_gain_of k) RX (dCons (dVar 0) (dCons (dVar 3) dNil))) (dCall (g_gain_of k) RX (dCons (dVar 1) (dCons (dVar 3) dNil))))))))
/-- check_number: 0 n 1 high -/
def t_check_number (k : Kx) (RX : RXd) : TSd :=
  (dIfS (dNot (dT (dCall (g_is_from k) RX (dCons (dVar 0) (dCons (dC (.int 1)) (dCons (dVar 1) dNil)))))) (dRz k "BadNumber" RX) dNext)
/-- turns: 0 game 1 n -/
def t_turns (k : Kx) (RX : RXd) : TSd :=
  (dSeq (dDrop (dCall (g_check_number k) RX (dCons (dVar 1) (dCons (dC (.int 1000000000000000000000000000000)) dNil)))) (dRet (dCall (g_turns_of k) RX (dCons (dVar 0) (dCons (dVar 1) dNil)))))
end DL

/-! text RA -/
set_option Elab.async false
set_option linter.all false
set_option maxRecDepth 100000
set_option maxHeartbeats 400000
set_option exponentiation.threshold 1100000
namespace DL
open PySem PySem.Spec PyProof.Rows L2 RZ
/-- sizeOf_list_dec: one step of a reading's value; array_get_dec: all steps -/
local macro_rules | `(tactic| sizeOf_list_dec) => `(tactic| first
  | exact ev_c | exact ev_var rfl | exact eva_nil | exact evT_yes
  | apply ev_op | apply ev_un | apply ev_not | apply ev_and | apply ev_or | apply ev_chain
  | apply ev_cb | apply ev_call | apply eva_cons | apply ev_tup | apply ev_lst
  | apply evT_val | apply evT_and | apply evT_or | apply evT_not
  | (apply ev_ifI <;> array_get_dec <;> done) | (apply ev_ifS <;> array_get_dec <;> done)
  | exact rr_addI | exact rr_sub | exact rr_lt | exact rr_le | exact rr_gt | exact rr_ge | exact rr_eqI | exact rr_eqS | exact rr_neI | exact rr_neS | exact rr_is | exact rr_isnot | exact rr_eqB | exact rr_neB
  | apply rr_mul | apply rr_div | apply rr_mod | apply rr_pow | exact rr_ixL rfl | exact rr_ixT rfl | apply rr_inL | apply rr_inT | apply rr_notinL | apply rr_notinT
  | exact ru_neg | (intro _; sizeOf_list_dec)
  | exact rr_eq rfl | exact rr_ne rfl
  | exact rc_lenL | exact rc_lenT | exact rc_lenD | exact rc_int | exact rc_intB | exact rc_abs | exact rc_min | exact rc_max | exact rc_tuple | exact rc_list | exact rc_listT
  | array_mem_dec)
local macro_rules | `(tactic| array_get_dec) => `(tactic| repeat' sizeOf_list_dec)
theorem divW {a b : Int} (h : 0 < b) (h2 : b < 2 ^ 3000) : CDivW a b := by
  refine ⟨h, ?_⟩
  have e : b.natAbs < 2 ^ 3000 := by
    have : ((b.natAbs : Nat) : Int) = b := Int.natAbs_of_nonneg (by omega)
    have q : ((b.natAbs : Nat) : Int) < ((2 ^ 3000 : Nat) : Int) := by rw [this]; exact_mod_cast h2
    exact_mod_cast q
  have z : b.natAbs ≠ 0 := by omega
  have := (Nat.log2_lt z).mpr e
  omega
theorem divS {a b : Int} (h : 0 < b) (h2 : b < 2 ^ 64) : CDivW a b := divW h (Int.lt_of_lt_of_le h2 (by decide))
theorem r_up (k : Kx) : Rok 2 0 (g_up k) (t_up k) where
  len := by
    rintro qs π R RX ⟨ds, rfl, rfl, a, b, rfl, _⟩
    rfl
  run := by
    rintro qs π R RX ⟨ds, rfl, rfl, a, b, rfl, h1, h2, q⟩
    exact ⟨divW h1 h2, q⟩
theorem cl_up {k : Kx} {a b : Int} (h : 0 < b) (h2 : b < 2 ^ 64) : Cl (g_up k) [.int a, .int b] (.int (upI a b)) := fun R X q => ⟨_, rfl, rfl, a, b, rfl, h, Int.lt_of_lt_of_le h2 (by decide), q⟩
theorem r_round_turns (k : Kx) : Rok 3 0 (g_round_turns k) (t_round_turns k) where
  len := by
    rintro qs π R RX ⟨ds, rfl, rfl, f, q, a, rfl, _⟩
    rfl
  run := by
    rintro qs π R RX ⟨ds, rfl, rfl, f, q, a, rfl, ⟨h1, h2, h3⟩, z⟩
    unfold roundT at z
    refine st_seq (st_if0 (b := decide (a ≤ f)) ?_ (fun e => ?_) (fun e => ?_))
    · array_get_dec
    · rw [if_pos (of_decide_eq_true e)] at z
      exact st_ret ev_c z
    · rw [if_neg (of_decide_eq_false e)] at z
      refine st_next ?_
      dsimp only
      refine (st_ret0 (x := optD (if q < f then some (upI (a - q) (f - q)) else none)) ?_ z)
      refine ev_if0 (b := decide (q < f)) ?_ (fun e => ?_) (fun e => ?_)
      · array_get_dec
      · rw [if_pos (of_decide_eq_true e)]
        have := of_decide_eq_true e
        refine ev_call0 (xs := [.int (a - q), .int (f - q)]) ?_ (cl_up (by omega) (by omega))
        array_get_dec
      · rw [if_neg (of_decide_eq_false e)]
        exact ev_c
theorem cl_round_turns {k : Kx} {f q a : Int} (h : 1 ≤ f ∧ f ≤ 5 ∧ 0 ≤ q) : Cl (g_round_turns k) [.int f, .int q, .int a] (optD (roundT f q a)) := fun R X z => ⟨_, rfl, rfl, f, q, a, rfl, h, z⟩
theorem al_always (b : Bool) : decide (sightS b = "always") = b := by cases b <;> decide +kernel
theorem al_never (b : Bool) : decide (sightS b = "never") = !b := by cases b <;> decide +kernel
theorem sh_ring (b : Bool) : decide (shapeS b = "ring") = b := by cases b <;> decide +kernel
theorem sh_path (b : Bool) : decide (shapeS b = "path") = !b := by cases b <;> decide +kernel
theorem r_alone_turns (k : Kx) : Rok 4 0 (g_alone_turns k) (t_alone_turns k) where
  len := by
    rintro qs π R RX ⟨ds, rfl, rfl, f, q, a, n, rfl, _⟩
    rfl
  run := by
    rintro qs π R RX ⟨ds, rfl, rfl, f, q, al, n, rfl, h, z⟩
    unfold aloneT at z
    refine st_seq (st_if0 (b := decide (n = 1)) ?_ (fun e => ?_) (fun e => ?_))
    · array_get_dec
    · rw [if_pos (of_decide_eq_true e)] at z
      exact st_ret ev_c z
    · rw [if_neg (of_decide_eq_false e)] at z
      refine st_next ?_
      dsimp only
      refine st_ret0 (x := optD (roundT f q (if al = true then n / 2 else n - 1))) ?_ z
      refine ev_call0 (xs := [.int f, .int q, .int (if al = true then n / 2 else n - 1)]) ?_ (cl_round_turns h)
      refine eva_cons (ev_var rfl) (eva_cons (ev_var rfl) (eva_cons ?_ eva_nil))
      refine ev_ifI0 (b := al) (evT_eq0 (b := decide (sightS al = "always")) ?_ (al_always al)) (fun _ => ?_) (fun _ => ?_)
      · array_get_dec
      · exact ev_op (ev_var rfl) ev_c (rr_div (divS (by decide) (by decide)))
      · array_get_dec
theorem cl_alone_turns {k : Kx} {f q n : Int} {al : Bool} (h : 1 ≤ f ∧ f ≤ 5 ∧ 0 ≤ q) : Cl (g_alone_turns k) [.int f, .int q, .str (sightS al), .int n] (optD (aloneT f q al n)) := fun R X z => ⟨_, rfl, rfl, f, q, al, n, rfl, h, z⟩
section
variable {k : Kx} {g : Gm} {te : TEd} {ρ ρ1 : En}
theorem ev_f1 (gk : GmK k) (h : Ev te ρ (gameD k g) ρ1) : Ev (dFld k.K "form_of" te) ρ (.str (shapeS g.ring)) ρ1 := ev_fld h gk.cl gk.n1 rfl
theorem ev_f2 (gk : GmK k) (h : Ev te ρ (gameD k g) ρ1) : Ev (dFld k.K "many" te) ρ (.int g.many) ρ1 := ev_fld h gk.cl gk.n2 rfl
theorem ev_f3 (gk : GmK k) (h : Ev te ρ (gameD k g) ρ1) : Ev (dFld k.K "far" te) ρ (.int g.far) ρ1 := ev_fld h gk.cl gk.n3 rfl
theorem ev_f4 (gk : GmK k) (h : Ev te ρ (gameD k g) ρ1) : Ev (dFld k.K "quick" te) ρ (.int g.quick) ρ1 := ev_fld h gk.cl gk.n4 rfl
theorem ev_f5 (gk : GmK k) (h : Ev te ρ (gameD k g) ρ1) : Ev (dFld k.K "seen" te) ρ (.str (sightS g.al)) ρ1 := ev_fld h gk.cl gk.n5 rfl
end
local macro_rules | `(tactic| array_mem_dec) => `(tactic| first | exact ev_f1 ‹GmK _› (ev_var rfl) | exact ev_f2 ‹GmK _› (ev_var rfl) | exact ev_f3 ‹GmK _› (ev_var rfl) | exact ev_f4 ‹GmK _› (ev_var rfl) | exact ev_f5 ‹GmK _› (ev_var rfl))
theorem Gm.Ok.fq {g : Gm} (h : g.Ok) : 1 ≤ g.far ∧ g.far ≤ 5 ∧ 0 ≤ g.quick := ⟨h.f1, h.f5, h.q0⟩
theorem mulS {i j : Int} (h : -(2 ^ 64) < j ∧ j < 2 ^ 64) : MulOk i j := .inl (.inr h)
theorem mulS' {i j : Int} (h : -(2 ^ 64) < i ∧ i < 2 ^ 64) : MulOk i j := .inl (.inl h)
theorem ring_one (g : Gm) : (g.ring && decide (g.many = 1)) = true ↔ g.ring = true ∧ g.many = 1 := by simp
theorem prod_ok {g : Gm} (h : g.Ok) : 0 < sidesI g.al * g.many * g.far ∧ sidesI g.al * g.many * g.far ≤ 60 := by
  obtain ⟨h1, h2, h3, h4, _, _, _⟩ := h
  have m : g.many = 1 ∨ g.many = 2 ∨ g.many = 3 ∨ g.many = 4 ∨ g.many = 5 ∨ g.many = 6 := by omega
  unfold sidesI
  split <;> rcases m with e | e | e | e | e | e <;> rw [e] <;> omega
theorem r_turns_of (k : Kx) (gk : GmK k) : Rok 2 1 (g_turns_of k) (t_turns_of k) where
  len := by
    rintro qs π R RX ⟨ds, rfl, rfl, g, n, rfl, _⟩
    rfl
  run := by
    rintro qs π R RX ⟨ds, rfl, rfl, g, n, rfl, h, z⟩
    unfold turnsO at z
    refine st_seq (st_if0 (b := g.ring && decide (g.many = 1)) ?_ (fun e => ?_) (fun e => ?_))
    · refine evT_eq0 (b := decide (shapeS g.ring = "ring") && decide (g.many = 1)) ?_ (by rw [sh_ring])
      array_get_dec
    · rw [if_pos ((ring_one g).mp e)] at z
      refine st_ret0 (x := optD (aloneT g.far g.quick g.al n)) (ev_call0 (xs := [.int g.far, .int g.quick, .str (sightS g.al), .int n]) ?_ (cl_alone_turns h.fq)) z
      array_get_dec
    · rw [if_neg (fun w => by rw [(ring_one g).mpr w] at e; cases e)] at z
      refine st_next ?_
      dsimp only
      refine st_seq (st_set0 (x := .int (sidesI g.al)) ?_ ?_)
      · refine ev_ifI0 (b := g.al) (evT_eq0 (b := decide (sightS g.al = "always")) ?_ (al_always g.al)) (fun _ => ?_) (fun _ => ?_)
        · array_get_dec
        · array_get_dec
        · array_get_dec
      · dsimp only
        have p := prod_ok h
        have sd : sidesI g.al = 1 ∨ sidesI g.al = 2 := by unfold sidesI; split <;> omega
        have := h.m1
        have := h.m6
        have := h.f1
        have := h.f5
        refine st_ret0 (x := optD (some (upI (max 0 (n - g.many)) (sidesI g.al * g.many * g.far)))) (ev_call0 (xs := [.int (max 0 (n - g.many)), .int (sidesI g.al * g.many * g.far)]) ?_ (cl_up p.1 (by omega))) z
        array_get_dec
        · exact mulS (by omega)
        · exact mulS (by omega)
end DL

/-! text RB -/
set_option Elab.async false
set_option linter.all false
set_option maxRecDepth 100000
set_option maxHeartbeats 1000000
set_option exponentiation.threshold 1100000
namespace DL
open PySem PySem.Spec PyProof.Rows L2 RZ
/-- sizeOf_list_dec: one step of a reading's value; array_get_dec: all steps -/
local macro_rules | `(tactic| sizeOf_list_dec) => `(tactic| first
  | exact ev_c | exact ev_var rfl | exact eva_nil | exact evT_yes
  | apply ev_op | apply ev_un | apply ev_not | apply ev_and | apply ev_or | apply ev_chain
  | apply ev_cb | apply ev_call | apply eva_cons | apply ev_tup | apply ev_lst
  | apply evT_val | apply evT_and | apply evT_or | apply evT_not
  | (apply ev_ifI <;> array_get_dec <;> done) | (apply ev_ifS <;> array_get_dec <;> done)
  | exact rr_addI | exact rr_sub | exact rr_lt | exact rr_le | exact rr_gt | exact rr_ge | exact rr_eqI | exact rr_eqS | exact rr_neI | exact rr_neS | exact rr_is | exact rr_isnot | exact rr_eqB | exact rr_neB
  | apply rr_mul | apply rr_div | apply rr_mod | apply rr_pow | exact rr_ixL rfl | exact rr_ixT rfl | apply rr_inL | apply rr_inT | apply rr_notinL | apply rr_notinT
  | exact ru_neg | (intro _; sizeOf_list_dec)
  | exact rr_eq rfl | exact rr_ne rfl
  | exact rc_lenL | exact rc_lenT | exact rc_lenD | exact rc_int | exact rc_intB | exact rc_abs | exact rc_min | exact rc_max | exact rc_tuple | exact rc_list | exact rc_listT
  | array_mem_dec)
local macro_rules | `(tactic| array_get_dec) => `(tactic| repeat' sizeOf_list_dec)
section
variable {K : PySem.W.Frag} {x : D}
theorem isi_of {m n : String} {b : Bool} (h : tyN x = some m) (hk : PySem.W.kitOne K (.type m) (.type n) = some b) : RC (rIsiD K) [x, .ty n] (.bl b) := rc_isi (.ty n) (.b h) hk
def isI : D → Bool
  | .int _ => true
  | .bl _ => true
  | _ => false
def isB : D → Bool
  | .bl _ => true
  | _ => false
def isS : D → Bool
  | .str _ => true
  | _ => false
def isTp : D → Bool
  | .tup _ => true
  | _ => false
theorem isi_int (h : okV x) : RC (rIsiD K) [x, .ty "int"] (.bl (isI x)) := by
  obtain ⟨n, h⟩ := h
  cases x <;> first | exact isi_of rfl rfl | cases h
theorem isi_bool (h : okV x) : RC (rIsiD K) [x, .ty "bool"] (.bl (isB x)) := by
  obtain ⟨n, h⟩ := h
  cases x <;> first | exact isi_of rfl rfl | cases h
theorem isi_str (h : okV x) : RC (rIsiD K) [x, .ty "str"] (.bl (isS x)) := by
  obtain ⟨n, h⟩ := h
  cases x <;> first | exact isi_of rfl rfl | cases h
theorem isi_tup (h : okV x) : RC (rIsiD K) [x, .ty "tuple"] (.bl (isTp x)) := by
  obtain ⟨n, h⟩ := h
  cases x <;> first | exact isi_of rfl rfl | cases h
end
local macro_rules | `(tactic| array_mem_dec) => `(tactic| first | exact isi_int ‹_› | exact isi_bool ‹_› | exact isi_str ‹_› | exact isi_tup ‹_›)
theorem r_is_integer (k : Kx) : Rok 1 0 (g_is_integer k) (t_is_integer k) where
  len := by
    rintro qs π R RX ⟨ds, rfl, rfl, x, rfl, _⟩
    rfl
  run := by
    rintro qs π R RX ⟨ds, rfl, rfl, x, rfl, h, z⟩
    have e : (isI x && !isB x) = isIntD x := by cases x <;> rfl
    rw [← e] at z
    refine st_ret0 ?_ z
    array_get_dec
theorem cl_is_integer {k : Kx} {x : D} (h : okV x) : Cl (g_is_integer k) [x] (.bl (isIntD x)) := fun R X z => ⟨_, rfl, rfl, x, rfl, h, z⟩
theorem r_is_from (k : Kx) : Rok 3 0 (g_is_from k) (t_is_from k) where
  len := by
    rintro qs π R RX ⟨ds, rfl, rfl, x, lo, hi, rfl, _⟩
    rfl
  run := by
    rintro qs π R RX ⟨ds, rfl, rfl, x, lo, hi, rfl, h, z⟩
    have c : EvA (dCons (dVar 0) dNil) ⟨[.d x, .d (.int lo), .d (.int hi)], []⟩ [x] ⟨[.d x, .d (.int lo), .d (.int hi)], []⟩ := by array_get_dec
    have key : isIntD x = false → fromD x lo hi = false := fun e => by cases x <;> first | rfl | cases e
    cases hx : isIntD x with
    | false =>
      rw [key hx] at z
      refine st_ret0 (x := .bl (false && false)) (ev_and (ev_call c (hx ▸ cl_is_integer h)) (fun w => by cases w)) z
    | true =>
      obtain ⟨i, rfl⟩ : ∃ i, x = .int i := by cases x <;> first | exact ⟨_, rfl⟩ | cases hx
      refine st_ret0 (x := .bl (true && (decide (lo ≤ i) && decide (i ≤ hi)))) (ev_and (ev_call c (hx ▸ cl_is_integer h)) (fun w => ?_)) z
      array_get_dec
theorem cl_is_from {k : Kx} {x : D} {lo hi : Int} (h : okV x) : Cl (g_is_from k) [x, .int lo, .int hi] (.bl (fromD x lo hi)) := fun R X z => ⟨_, rfl, rfl, x, lo, hi, rfl, h, z⟩
theorem r_is_one_of (k : Kx) : Rok 2 0 (g_is_one_of k) (t_is_one_of k) where
  len := by
    rintro qs π R RX ⟨ds, rfl, rfl, x, l, rfl, _⟩
    rfl
  run := by
    rintro qs π R RX ⟨ds, rfl, rfl, x, l, rfl, h, hl, z⟩
    cases hx : isS x with
    | false =>
      have e : oneD x l = false := by cases x <;> first | rfl | cases hx
      rw [e] at z
      refine st_ret0 (x := .bl (false && false)) (ev_and (ev_cb (xs := [x, .ty "str"]) (ρ1 := ⟨[.d x, .d (.tup l)], []⟩) ?_ (hx ▸ isi_str h)) (fun w => by cases w)) z
      array_get_dec
    | true =>
      obtain ⟨s, rfl⟩ : ∃ s, x = .str s := by cases x <;> first | exact ⟨_, rfl⟩ | cases hx
      refine st_ret0 (x := .bl (true && inD (.str s) l)) (ev_and (ev_cb (xs := [.str s, .ty "str"]) (ρ1 := ⟨[.d (.str s), .d (.tup l)], []⟩) ?_ (hx ▸ isi_str h)) (fun w => ?_)) z
      · array_get_dec
      · array_get_dec
        exact ⟨rfl, hl⟩
theorem cl_is_one_of {k : Kx} {x : D} {l : List D} (h : okV x) (hl : l.all flatD = true) : Cl (g_is_one_of k) [x, .tup l] (.bl (oneD x l)) := fun R X z => ⟨_, rfl, rfl, x, l, rfl, h, hl, z⟩
theorem r_is_untold (k : Kx) : Rok 3 0 (g_is_untold k) (t_is_untold k) where
  len := by
    rintro qs π R RX ⟨ds, rfl, rfl, s, c, t, rfl, _⟩
    rfl
  run := by
    rintro qs π R RX ⟨ds, rfl, rfl, s, c, t, rfl, z⟩
    refine st_ret0 ?_ z
    unfold untoldB
    array_get_dec
    decide
theorem cl_is_untold {k : Kx} {s t : Str} {c : Int} : Cl (g_is_untold k) [.str s, .int c, .str t] (.bl (untoldB s c t)) := fun R X z => ⟨_, rfl, rfl, s, c, t, rfl, z⟩
end DL

/-! text RC -/
set_option Elab.async false
set_option linter.all false
set_option maxRecDepth 100000
set_option maxHeartbeats 1000000
set_option exponentiation.threshold 1100000
namespace DL
open PySem PySem.Spec PyProof.Rows L2 RZ
/-- sizeOf_list_dec: one step of a reading's value; array_get_dec: all steps -/
local macro_rules | `(tactic| sizeOf_list_dec) => `(tactic| first
  | exact ev_c | exact ev_var rfl | exact eva_nil | exact evT_yes
  | apply ev_op | apply ev_un | apply ev_not | apply ev_and | apply ev_or | apply ev_chain
  | apply ev_cb | apply ev_call | apply eva_cons | apply ev_tup | apply ev_lst
  | apply evT_val | apply evT_and | apply evT_or | apply evT_not
  | (apply ev_ifI <;> array_get_dec <;> done) | (apply ev_ifS <;> array_get_dec <;> done)
  | exact rr_addI | exact rr_sub | exact rr_lt | exact rr_le | exact rr_gt | exact rr_ge | exact rr_eqI | exact rr_eqS | exact rr_neI | exact rr_neS | exact rr_is | exact rr_isnot | exact rr_eqB | exact rr_neB
  | apply rr_mul | apply rr_div | apply rr_mod | apply rr_pow | exact rr_ixL rfl | exact rr_ixT rfl | apply rr_inL | apply rr_inT | apply rr_notinL | apply rr_notinT
  | exact ru_neg | (intro _; sizeOf_list_dec)
  | exact rr_eq rfl | exact rr_ne rfl
  | exact rc_lenL | exact rc_lenT | exact rc_lenD | exact rc_int | exact rc_intB | exact rc_abs | exact rc_min | exact rc_max | exact rc_tuple | exact rc_list | exact rc_listT
  | array_mem_dec)
local macro_rules | `(tactic| array_get_dec) => `(tactic| repeat' sizeOf_list_dec)
local macro_rules | `(tactic| array_mem_dec) => `(tactic| first | exact ev_f1 ‹GmK _› (ev_var rfl) | exact ev_f2 ‹GmK _› (ev_var rfl) | exact ev_f3 ‹GmK _› (ev_var rfl) | exact ev_f4 ‹GmK _› (ev_var rfl) | exact ev_f5 ‹GmK _› (ev_var rfl))
section
variable {ρ : En} {te : TEd} {b : Bool} {s rest : TSd} {Dd : EndsD}
theorem st_chk (h : Ev te ρ (.bl b) ρ) (h1 : b = false → s { Dd with nx := rest Dd } ρ) (h2 : b = true → rest Dd ρ) : dSeq (dIfS (dNot (dT te)) s dNext) rest Dd ρ :=
  st_seq (st_if0 (b := !b) (evT_not (evT_val h)) (fun e => h1 (by cases b; rfl; cases e)) (fun e => h2 (by cases b; cases e; rfl)))
theorem st_chk1 (h : Ev te ρ (.bl b) ρ) (h1 : b = false → s Dd ρ) (h2 : b = true → Dd.nx ρ) : dIfS (dNot (dT te)) s dNext Dd ρ :=
  st_if0 (b := !b) (evT_not (evT_val h)) (fun e => h1 (by cases b; rfl; cases e)) (fun e => h2 (by cases b; cases e; rfl))
end
section
variable {K : PySem.W.Frag} {te : TEd} {f : Str} {j : Nat} {ρ : En} {d : D} {Dd : EndsD} {C : Addr} {fs : List (Str × Fv)}
theorem st_fldP (h : Ev te ρ d ρ) (h0 : ρ.thing j = some (.ins C fs)) (h1 : Cls K C) (h2 : NoAttr K C f) (h3 : fs.length < 1000) (h4 : f ∉ fs.map (·.1)) (q : Dd.nx (ρ.chg j (.ins C (putFv f (.d d) fs)))) : dFldP K j te f Dd ρ := by
  refine h _ ?_
  rw [h0]
  exact ⟨h1, h2, h3, h4, q⟩
end
theorem r_Game_init (k : Kx) (gk : GmK k) : Rok 6 0 (g_Game_init k) (t_Game_init k) where
  len := by
    rintro qs π R RX ⟨s, m, f, q, t, rfl, _⟩
    rfl
  run := by
    rintro qs π R RX ⟨s, m, f, q, t, rfl, rfl, ⟨o1, o2, o3, o4, o5⟩, z⟩
    unfold gameErr at z
    have c1 := cl_is_one_of (k := k) (l := shapesD) o1 rfl
    have c2 := cl_is_from (k := k) (lo := 1) (hi := 6) o2
    have c3 := cl_is_from (k := k) (lo := 1) (hi := 5) o3
    have c4 := cl_is_from (k := k) (lo := 0) (hi := 5) o4
    have c5 := cl_is_one_of (k := k) (l := sightsD) o5 rfl
    refine st_chk (ev_call0 (by array_get_dec) c1) (fun e => ?_) (fun e => ?_)
    · rw [if_pos e] at z; exact z
    rw [if_neg (by rw [e]; decide)] at z
    have e1 := e
    refine st_chk (ev_call0 (by array_get_dec) c2) (fun e => ?_) (fun e => ?_)
    · rw [if_pos e] at z; exact z
    rw [if_neg (by rw [e]; decide)] at z
    have e2 := e
    refine st_chk (ev_call0 (by array_get_dec) c3) (fun e => ?_) (fun e => ?_)
    · rw [if_pos e] at z; exact z
    rw [if_neg (by rw [e]; decide)] at z
    refine st_chk (ev_call0 (by array_get_dec) c4) (fun e => ?_) (fun e => ?_)
    · rw [if_pos e] at z; exact z
    rw [if_neg (by rw [e]; decide)] at z
    refine st_chk (ev_call0 (by array_get_dec) c5) (fun e => ?_) (fun e => ?_)
    · rw [if_pos e] at z; exact z
    rw [if_neg (by rw [e]; decide)] at z
    have e5 := e
    obtain ⟨s, rfl⟩ : ∃ x, s = .str x := by cases s <;> first | exact ⟨_, rfl⟩ | cases e1
    obtain ⟨m, rfl⟩ : ∃ x, m = .int x := by cases m <;> first | exact ⟨_, rfl⟩ | cases e2
    obtain ⟨t, rfl⟩ : ∃ x, t = .str x := by cases t <;> first | exact ⟨_, rfl⟩ | cases e5
    dsimp only at z
    refine st_seq (st_if0 (b := untoldB s m t) (evT_val (ev_call0 (by array_get_dec) cl_is_untold)) (fun e => ?_) (fun e => ?_))
    · rw [if_pos e] at z; exact z
    rw [if_neg (by rw [e]; decide)] at z
    refine st_next ?_
    dsimp only
    refine st_seq (st_fldP (C := k.cl "Game") (fs := []) (ev_var rfl) rfl gk.cl gk.n1 (by decide) (by decide +kernel) ?_)
    dsimp only
    refine st_seq (st_fldP (C := k.cl "Game") (fs := [("form_of", .d (.str s))]) (ev_var rfl) rfl gk.cl gk.n2 (by show 1 < 1000; decide) (by show ("many" : Str) ∉ [("form_of" : Str)]; decide +kernel) ?_)
    dsimp only
    refine st_seq (st_fldP (C := k.cl "Game") (fs := [("form_of", .d (.str s)), ("many", .d (.int m))]) (ev_var rfl) rfl gk.cl gk.n3 (by show 2 < 1000; decide) (by show ("far" : Str) ∉ [("form_of" : Str), "many"]; decide +kernel) ?_)
    dsimp only
    refine st_seq (st_fldP (C := k.cl "Game") (fs := [("form_of", .d (.str s)), ("many", .d (.int m)), ("far", .d f)]) (ev_var rfl) rfl gk.cl gk.n4 (by show 3 < 1000; decide) (by show ("quick" : Str) ∉ [("form_of" : Str), "many", "far"]; decide +kernel) ?_)
    dsimp only
    exact (st_fldP (C := k.cl "Game") (fs := [("form_of", .d (.str s)), ("many", .d (.int m)), ("far", .d f), ("quick", .d q)]) (ev_var rfl) rfl gk.cl gk.n5 (by show 4 < 1000; decide) (by show ("seen" : Str) ∉ [("form_of" : Str), "many", "far", "quick"]; decide +kernel) z)
theorem r_check_number (k : Kx) : Rok 2 0 (g_check_number k) (t_check_number k) where
  len := by
    rintro qs π R RX ⟨ds, rfl, rfl, n, hi, rfl, _⟩
    rfl
  run := by
    rintro qs π R RX ⟨ds, rfl, rfl, n, hi, rfl, o, z⟩
    refine st_chk1 (ev_call0 (by array_get_dec) (cl_is_from o)) (fun e => ?_) (fun e => ?_)
    · rw [if_neg (by rw [e]; decide)] at z; exact z
    · rw [if_pos e] at z; exact z
theorem cl_turns_of {k : Kx} {g : Gm} {n : Int} (h : g.Ok) : Cl (g_turns_of k) [gameD k g, .int n] (optD (turnsO g n)) := fun R X z => ⟨_, rfl, rfl, g, n, rfl, h, z⟩
theorem r_turns (k : Kx) : Rok 2 0 (g_turns k) (t_turns k) where
  len := by
    rintro qs π R RX ⟨ds, rfl, rfl, g, n, rfl, _⟩
    rfl
  run := by
    rintro qs π R RX ⟨ds, rfl, rfl, g, n, rfl, h, o, z⟩
    show dCall (g_check_number k) _ _ _ _
    have a : EvA (dCons (dVar 1) (dCons (dC (.int 1000000000000000000000000000000)) dNil)) ⟨[.d (gameD k g), .d n], []⟩ [n, .int 1000000000000000000000000000000] ⟨[.d (gameD k g), .d n], []⟩ := by array_get_dec
    refine a _ ⟨_, rfl, rfl, n, _, rfl, o, ?_⟩
    cases hn : fromD n 1 1000000000000000000000000000000 with
    | false =>
      rw [if_neg (by decide)]
      cases n with
      | int i =>
        dsimp only at z
        rw [if_neg] at z
        · exact z
        · intro w
          have : fromD (.int i) 1 1000000000000000000000000000000 = true := by simp only [fromD, decide_eq_true w.1, Bool.true_and]; exact decide_eq_true w.2
          rw [this] at hn
          cases hn
      | _ => exact z
    | true =>
      rw [if_pos rfl]
      obtain ⟨i, rfl⟩ : ∃ x, n = .int x := by cases n <;> first | exact ⟨_, rfl⟩ | cases hn
      simp only [fromD, Bool.and_eq_true, decide_eq_true_eq] at hn
      dsimp only at z
      rw [if_pos (show 1 ≤ i ∧ i ≤ greatI from hn)] at z
      unfold retD
      dsimp only
      refine st_ret0 (ev_call0 (xs := [gameD k g, .int i]) ?_ (cl_turns_of h)) z
      array_get_dec
theorem r_is_ever (k : Kx) (gk : GmK k) : Rok 1 0 (g_is_ever k) (t_is_ever k) where
  len := by
    rintro qs π R RX ⟨ds, rfl, rfl, g, rfl, _⟩
    rfl
  run := by
    rintro qs π R RX ⟨ds, rfl, rfl, g, rfl, z⟩
    have e : (decide (shapeS g.ring = "path") || (decide (1 < g.many) || decide (g.quick < g.far))) = everB g := by rw [sh_path]; unfold everB; rw [Bool.or_assoc]
    rw [← e] at z
    refine st_ret0 ?_ z
    array_get_dec
theorem cl_is_ever {k : Kx} {g : Gm} : Cl (g_is_ever k) [gameD k g] (.bl (everB g)) := fun R X z => ⟨_, rfl, rfl, g, rfl, z⟩
theorem r_period_of (k : Kx) (gk : GmK k) : Rok 1 0 (g_period_of k) (t_period_of k) where
  len := by
    rintro qs π R RX ⟨ds, rfl, rfl, g, rfl, _⟩
    rfl
  run := by
    rintro qs π R RX ⟨ds, rfl, rfl, g, rfl, h, z⟩
    unfold periodI sidesI at z
    have two : EvT (dT (dOp oEq (dFld k.K "seen" (dVar 0)) (dC (.str "always")))) ⟨[.d (gameD k g)], []⟩ g.al ⟨[.d (gameD k g)], []⟩ := by
      refine evT_eq0 (b := decide (sightS g.al = "always")) ?_ (al_always g.al)
      array_get_dec
    have tw : Ev (dIf (dT (dOp oEq (dFld k.K "seen" (dVar 0)) (dC (.str "always")))) (dC (.int 2)) (dC (.int 1))) ⟨[.d (gameD k g)], []⟩ (.int (if g.al = true then 2 else 1)) ⟨[.d (gameD k g)], []⟩ := ev_ifI0 two (fun _ => ev_c) (fun _ => ev_c)
    have sd : -(2 ^ 64) < (if g.al = true then 2 else 1 : Int) ∧ (if g.al = true then 2 else 1 : Int) < 2 ^ 64 := by split <;> decide
    have := h.m1
    have := h.m6
    have := h.f1
    have := h.f5
    refine st_seq (st_if0 (b := g.ring && decide (g.many = 1)) ?_ (fun e => ?_) (fun e => ?_))
    · refine evT_eq0 (b := decide (shapeS g.ring = "ring") && decide (g.many = 1)) ?_ (by rw [sh_ring])
      array_get_dec
    · rw [if_pos ((ring_one g).mp e)] at z
      refine st_ret0 (ev_op (ρ1 := ⟨[.d (gameD k g)], []⟩) ?_ tw (rr_mul (mulS sd))) z
      array_get_dec
    · rw [if_neg (fun w => by rw [(ring_one g).mpr w] at e; cases e)] at z
      refine st_next ?_
      dsimp only
      refine st_ret0 (ev_op (ρ1 := ⟨[.d (gameD k g)], []⟩) ?_ tw (rr_mul (mulS sd))) z
      array_get_dec
      exact mulS (by omega)
theorem cl_period_of {k : Kx} {g : Gm} (h : g.Ok) : Cl (g_period_of k) [gameD k g] (.int (periodI g)) := fun R X z => ⟨_, rfl, rfl, g, rfl, h, z⟩
end DL

/-! text RD -/
set_option Elab.async false
set_option linter.all false
set_option maxRecDepth 100000
set_option maxHeartbeats 1000000
set_option exponentiation.threshold 1100000
namespace DL
open PySem PySem.Spec PyProof.Rows L2 RZ
/-- sizeOf_list_dec: one step of a reading's value; array_get_dec: all steps -/
local macro_rules | `(tactic| sizeOf_list_dec) => `(tactic| first
  | exact ev_c | exact ev_var rfl | exact eva_nil | exact evT_yes
  | apply ev_op | apply ev_un | apply ev_not | apply ev_and | apply ev_or | apply ev_chain
  | apply ev_cb | apply ev_call | apply eva_cons | apply ev_tup | apply ev_lst
  | apply evT_val | apply evT_and | apply evT_or | apply evT_not
  | (apply ev_ifI <;> array_get_dec <;> done) | (apply ev_ifS <;> array_get_dec <;> done)
  | exact rr_addI | exact rr_sub | exact rr_lt | exact rr_le | exact rr_gt | exact rr_ge | exact rr_eqI | exact rr_eqS | exact rr_neI | exact rr_neS | exact rr_is | exact rr_isnot | exact rr_eqB | exact rr_neB
  | apply rr_mul | apply rr_div | apply rr_mod | apply rr_pow | exact rr_ixL rfl | exact rr_ixT rfl | apply rr_inL | apply rr_inT | apply rr_notinL | apply rr_notinT
  | exact ru_neg | (intro _; sizeOf_list_dec)
  | exact rr_eq rfl | exact rr_ne rfl
  | exact rc_lenL | exact rc_lenT | exact rc_lenD | exact rc_int | exact rc_intB | exact rc_abs | exact rc_min | exact rc_max | exact rc_tuple | exact rc_list | exact rc_listT
  | array_mem_dec)
local macro_rules | `(tactic| array_get_dec) => `(tactic| repeat' sizeOf_list_dec)
local macro_rules | `(tactic| array_mem_dec) => `(tactic| first | exact ev_f1 ‹GmK _› (ev_var rfl) | exact ev_f2 ‹GmK _› (ev_var rfl) | exact ev_f3 ‹GmK _› (ev_var rfl) | exact ev_f4 ‹GmK _› (ev_var rfl) | exact ev_f5 ‹GmK _› (ev_var rfl) | exact cl_is_ever | exact cl_period_of ‹_› | exact cl_turns_of ‹_›)
theorem period_ok {g : Gm} (h : g.Ok) (e : everB g = true) : 0 < periodI g ∧ periodI g ≤ 60 := by
  obtain ⟨h1, h2, h3, h4, h5, _, _⟩ := h
  unfold periodI sidesI
  unfold everB at e
  simp only [Bool.or_eq_true, Bool.not_eq_true', decide_eq_true_eq] at e
  have m : g.many = 1 ∨ g.many = 2 ∨ g.many = 3 ∨ g.many = 4 ∨ g.many = 5 ∨ g.many = 6 := by omega
  split
  · rename_i w
    have : g.quick < g.far := by
      rcases e with (e | e) | e
      · rw [w.1] at e; cases e
      · omega
      · exact e
    split <;> omega
  · split <;> rcases m with e | e | e | e | e | e <;> rw [e] <;> omega
theorem r_divisor (k : Kx) : Rok 2 0 (g_divisor k) (t_divisor k) where
  len := by
    rintro qs π R RX ⟨ds, rfl, rfl, a, b, rfl, _⟩
    rfl
  run := by
    rintro qs π R RX ⟨ds, rfl, rfl, a, b, rfl, z⟩
    refine st_seq (st_while (fun m ρ => ∃ x y : Nat, ρ = ⟨[.d (.int x), .d (.int y)], []⟩ ∧ Nat.gcd x y = Nat.gcd a b ∧ m = y) b ⟨a, b, rfl, rfl, rfl⟩ ?_)
    rintro m ρ ⟨x, y, rfl, e, em⟩
    subst em
    refine ⟨!decide ((m : Int) = 0), by array_get_dec, fun w => ?_, fun w => ?_⟩
    · simp only [Bool.not_eq_true', decide_eq_false_iff_not] at w
      refine st_par (x := .int m) (y := .int ((x : Int) % m)) (ev_var rfl) (ev_op (ev_var rfl) (ev_var rfl) (rr_mod (by omega))) ?_
      refine ⟨x % m, Nat.mod_lt _ (by omega), m, x % m, ?_, ?_, rfl⟩
      · rfl
      · rw [← e, Nat.gcd_comm m, ← Nat.gcd_rec, Nat.gcd_comm]
    · simp only [Bool.not_eq_false', decide_eq_true_eq] at w
      have : m = 0 := by omega
      subst this
      rw [Nat.gcd_zero_right] at e
      rw [← e] at z
      dsimp only
      refine st_ret0 (ev_var rfl) ?_
      exact z
theorem cl_divisor {k : Kx} {a b : Nat} : Cl (g_divisor k) [.int a, .int b] (.int (Nat.gcd a b)) := fun R X z => ⟨_, rfl, rfl, a, b, rfl, z⟩
theorem r_gain_of (k : Kx) : Rok 2 0 (g_gain_of k) (t_gain_of k) where
  len := by
    rintro qs π R RX ⟨ds, rfl, rfl, g, n, rfl, _⟩
    rfl
  run := by
    rintro qs π R RX ⟨ds, rfl, rfl, g, n, rfl, h, z⟩
    refine st_ret0 ?_ z
    unfold gainO
    refine ev_if0 (b := everB g) ?_ (fun e => ?_) (fun e => ?_)
    · array_get_dec
    · rw [if_pos e]
      have p := period_ok h e
      refine ev_op (z := .int (n / periodI g)) (ev_var rfl) (ev_call0 ?_ (cl_period_of h)) (rr_div (divS p.1 (by omega)))
      array_get_dec
    · rw [if_neg (by rw [e]; decide)]
      exact ev_c
theorem cl_gain_of {k : Kx} {g : Gm} {n : Int} (h : g.Ok) : Cl (g_gain_of k) [gameD k g, .int n] (optD (gainO g n)) := fun R X z => ⟨_, rfl, rfl, g, n, rfl, h, z⟩
def stepW (w : Int) (g : Gm) : Int := if everB g = true then w / (Int.gcd w (periodI g) : Int) * periodI g else w
theorem step_one (g : Gm) : stepW 1 g = if everB g = true then periodI g else 1 := by
  unfold stepW
  split
  · rw [Int.one_gcd]; simp
  · rfl
theorem whole_step (g h : Gm) : wholeI g h = stepW (stepW 1 g) h := by
  rw [step_one]
  rfl
theorem r_bounds (k : Kx) : Rok 2 3 (g_bounds k) (t_bounds k) where
  len := by
    rintro qs π R RX ⟨ds, rfl, rfl, g, n, rfl, _⟩
    rfl
  run := by
    rintro qs π R RX ⟨ds, rfl, rfl, g, h, rfl, og, oh, z⟩
    rw [whole_step] at z
    refine st_seq (st_set0 ev_c ?_)
    dsimp only
    have turn : ∀ (x : Gm) (w : Int) (s3 s4 : Sl) (Dd : EndsD), x.Ok → 0 < w → w ≤ 60 → (∀ s4', Dd.nx ⟨[.d (gameD k g), .d (gameD k h), .d (.int (stepW w x)), .d (gameD k x), s4'], []⟩) →
        dIfS (dT (dCall (g_is_ever k) (fun x ρ => RX x ρ.pa) (dCons (dVar 3) dNil))) (dSeq (dSet 4 (dCall (g_period_of k) (fun x ρ => RX x ρ.pa) (dCons (dVar 3) dNil))) (dSet 2 (dOp oMul (dOp oDiv (dVar 2) (dCall (g_divisor k) (fun x ρ => RX x ρ.pa) (dCons (dVar 2) (dCons (dVar 4) dNil)))) (dVar 4)))) dNext Dd ⟨[.d (gameD k g), .d (gameD k h), .d (.int w), .d (gameD k x), s4], []⟩ := by
      intro x w s3 s4 Dd ox w0 w60 kk
      refine st_if0 (b := everB x) ?_ (fun e => ?_) (fun e => ?_)
      · array_get_dec
      · have p := period_ok ox e
        refine st_seq (st_set0 (x := .int (periodI x)) ?_ ?_)
        · array_get_dec
        · dsimp only
          obtain ⟨a, ea⟩ : ∃ a : Nat, w = a := ⟨w.toNat, by omega⟩
          obtain ⟨b, eb⟩ : ∃ b : Nat, periodI x = b := ⟨(periodI x).toNat, by omega⟩
          have gp : 0 < Nat.gcd a b := Nat.gcd_pos_of_pos_left _ (by omega)
          have gl : Nat.gcd a b ≤ a := Nat.gcd_le_left _ (by omega)
          refine st_set0 (x := .int (stepW w x)) ?_ (kk _)
          unfold stepW
          rw [if_pos e, ea, eb]
          refine ev_op (ρ1 := _) (y := .int b) (ev_op (y := .int (Nat.gcd a b)) (ev_var rfl) (ev_call0 ?_ cl_divisor) (rr_div (divS (by omega) (by omega)))) (ev_var rfl) (rr_mul (mulS (by omega)))
          array_get_dec
      · refine st_next ?_
        have := kk s4
        unfold stepW at this
        rw [if_neg (by rw [e]; decide)] at this
        exact this
    have w1 : 0 < stepW 1 g ∧ stepW 1 g ≤ 60 := by
      rw [step_one]
      split
      · exact period_ok og ‹_›
      · omega
    refine st_seq (st_for [gameD k g, gameD k h] (it_tup ?_) (fun i ρ => ∃ s3 s4, ρ = ⟨[.d (gameD k g), .d (gameD k h), .d (.int (match i with | 0 => 1 | 1 => stepW 1 g | _ => stepW (stepW 1 g) h)), s3, s4], []⟩ ∧ i ≤ 2) ⟨_, _, rfl, by omega⟩ ?_ ?_)
    · array_get_dec
      rw [sizeLine_eq]; show 2 ≤ 16777216; decide
    · rintro i d ρ hd ⟨s3, s4, rfl, hi⟩
      match i, hd with
      | 0, hd =>
        cases hd
        exact turn g 1 s3 s4 _ og (by omega) (by omega) (fun s4' => ⟨_, _, rfl, by omega⟩)
      | 1, hd =>
        cases hd
        exact turn h (stepW 1 g) s3 s4 _ oh w1.1 w1.2 (fun s4' => ⟨_, _, rfl, by omega⟩)
    · rintro ρ ⟨s3, s4, rfl, _⟩
      dsimp only [List.length]
      refine st_ret0 ?_ z
      array_get_dec
      rw [sizeLine_eq]; show 2 ≤ 16777216; decide
theorem cl_bounds {k : Kx} {g h : Gm} (og : g.Ok) (oh : h.Ok) : Cl (g_bounds k) [gameD k g, gameD k h] (.tup [.int 12, .int (wholeI g h)]) := fun R X z => ⟨_, rfl, rfl, g, h, rfl, og, oh, z⟩
end DL

/-! text RE -/
set_option Elab.async false
set_option linter.all false
set_option maxRecDepth 100000
set_option maxHeartbeats 1000000
set_option exponentiation.threshold 1100000
namespace DL
open PySem PySem.Spec PyProof.Rows L2 RZ
/-- sizeOf_list_dec: one step of a reading's value; array_get_dec: all steps -/
local macro_rules | `(tactic| sizeOf_list_dec) => `(tactic| first
  | exact ev_c | exact ev_var rfl | exact eva_nil | exact evT_yes
  | apply ev_op | apply ev_un | apply ev_not | apply ev_and | apply ev_or | apply ev_chain
  | apply ev_cb | apply ev_call | apply eva_cons | apply ev_tup | apply ev_lst
  | apply evT_val | apply evT_and | apply evT_or | apply evT_not
  | (apply ev_ifI <;> array_get_dec <;> done) | (apply ev_ifS <;> array_get_dec <;> done)
  | exact rr_addI | exact rr_sub | exact rr_lt | exact rr_le | exact rr_gt | exact rr_ge | exact rr_eqI | exact rr_eqS | exact rr_neI | exact rr_neS | exact rr_is | exact rr_isnot | exact rr_eqB | exact rr_neB
  | apply rr_mul | apply rr_div | apply rr_mod | apply rr_pow | exact rr_ixL rfl | exact rr_ixT rfl | apply rr_inL | apply rr_inT | apply rr_notinL | apply rr_notinT
  | exact ru_neg | (intro _; sizeOf_list_dec)
  | exact rr_eq rfl | exact rr_ne rfl
  | exact rc_lenL | exact rc_lenT | exact rc_lenD | exact rc_int | exact rc_intB | exact rc_abs | exact rc_min | exact rc_max | exact rc_tuple | exact rc_list | exact rc_listT
  | array_mem_dec)
local macro_rules | `(tactic| array_get_dec) => `(tactic| repeat' sizeOf_list_dec)
theorem at_in {l : List D} {i : Int} {v : D} (h0 : 0 ≤ i) (h : l[i.toNat]? = some v) : atD l i = some v := by
  have hl : i.toNat < l.length := (List.getElem?_eq_some_iff.mp h).1
  unfold atD atI ixN
  rw [if_pos h0, if_pos (by omega)]
  exact h
theorem at_neg {l : List D} {i : Int} {v : D} (h0 : i < 0) (h1 : -(l.length : Int) ≤ i) (h : l[(i + l.length).toNat]? = some v) : atD l i = some v := by
  unfold atD atI ixN
  rw [if_neg (by omega), if_pos h1]
  exact h
theorem at_row0 {ns : List Int} {i r2 r3 : Int} : atD [.lst (ns.map .int), .int i, .int r2, .int r3] 0 = some (.lst (ns.map .int)) := rfl
theorem at_row1 {ns : List Int} {i r2 r3 : Int} : atD [.lst (ns.map .int), .int i, .int r2, .int r3] 1 = some (.int i) := rfl
theorem at_row2 {ns : List Int} {i r2 r3 : Int} : atD [.lst (ns.map .int), .int i, .int r2, .int r3] 2 = some (.int r2) := rfl
theorem at_row3 {ns : List Int} {i r2 r3 : Int} : atD [.lst (ns.map .int), .int i, .int r2, .int r3] 3 = some (.int r3) := rfl
local macro_rules | `(tactic| array_mem_dec) => `(tactic| first | exact ev_ixT rfl ev_c at_row0 | exact ev_ixT rfl ev_c at_row1 | exact ev_ixT rfl ev_c at_row2 | exact ev_ixT rfl ev_c at_row3)
theorem r_law_draws (k : Kx) : Rok 1 0 (mkG' gp_draws) (t_law_draws k) where
  len := by
    rintro qs π R RX ⟨ns, rfl, rfl, _⟩
    rfl
  run := by
    rintro qs π R RX ⟨ns, rfl, rfl, _, z⟩
    refine st_retO (evo_lst (xs := [.lst (ns.map .int), .int 0, .int 0, .int 7]) (ρ1 := ⟨[.d (.scr ns)], []⟩) (eva_cons (ev_cb (xs := [.scr ns]) (ρ1 := ⟨[.d (.scr ns)], []⟩) ?_ (fun Q q => q)) ?_) (by rw [sizeLine_eq]; show 4 ≤ 16777216; decide)) z
    · array_get_dec
    · array_get_dec
def pickSt (n : Int) (s2 : Sl) (ns : List Int) (i r2 r3 : Int) : En := ⟨[.par 0, .d (.int n), s2, .no], [rowL ns i r2 r3]⟩
theorem natAbs_div {a b : Int} (ha : 0 ≤ a) (hb : 0 < b) : (a / b).natAbs ≤ a.natAbs := by
  have h1 : 0 ≤ a / b := Int.ediv_nonneg ha (by omega)
  have h2 : a / b ≤ a := Int.ediv_le_self _ ha
  omega
theorem mod_ok (x : Int) : 0 ≤ x % 2147483647 ∧ x % 2147483647 < 2147483647 := ⟨Int.emod_nonneg _ (by decide), Int.emod_lt_of_pos _ (by decide)⟩
theorem r_law_pick (k : Kx) : Rok 2 2 (rowG' gp_pick) (t_law_pick k) where
  len := by
    rintro qs π R RX ⟨ns, i, r2, r3, ok, rfl, n, rfl, _⟩
    rfl
  run := by
    rintro qs π R RX ⟨ns, i, r2, r3, ok, rfl, n, rfl, n0, n1, _, z⟩
    unfold t_law_pick
    refine st_seq ?_
    generalize hB : (dSeq (dIfS (dT (dOp oGt (dIxT 0 (dC (.int 2))) (dC (.int 0)))) _ dNext) _) = Bb
    have fin : ∀ i r2 r3 s2, RowOk ns i r2 r3 → Bb { nx := fun ρ => R (.d .non) ρ.pa, rt := fun r ρ => R r ρ.pa } (pickSt n s2 ns i r2 r3) := by
      intro i r2 r3 s2 ok
      rw [← hB]
      unfold pickSt rowL
      refine st_seq (st_if0 (b := decide (0 < r2)) ?_ (fun e => ?_) (fun e => ?_))
      · array_get_dec
      · have p := of_decide_eq_true e
        refine st_seq (st_set0 (x := .int (r2 % n)) ?_ ?_)
        · array_get_dec
          exact n0
        dsimp only
        refine st_seq (st_stT (x := .int (r2 / n)) (ρ1 := _) (l := [.lst (ns.map .int), .int i, .int r2, .int r3]) (n := 2) (m := 2) (ev_op (ev_ixT rfl ev_c at_row2) (ev_var rfl) (rr_div (divW n0 n1))) rfl ev_c rfl ?_)
        dsimp only
        exact st_ret0 (ev_var rfl) (z (r2 % n) i (r2 / n) r3 (Int.emod_nonneg _ (by omega)) (Int.emod_lt_of_pos _ n0) ⟨ok.ns, ok.i, Int.ediv_nonneg ok.p2 (by omega), Nat.lt_of_le_of_lt (natAbs_div ok.p2 n0) ok.b2, ok.p3, ok.b3⟩)
      · refine st_next ?_
        dsimp only
        refine st_ret0 (x := .int (r3 * 16807 % 2147483629 % n)) ?_ (z _ i r2 r3 (Int.emod_nonneg _ (by omega)) (Int.emod_lt_of_pos _ n0) ok)
        array_get_dec
        · exact mulS (by decide)
        · decide
        · exact n0
    refine st_if0 (b := decide (r2 = 0)) ?_ (fun e => ?_) (fun e => ?_)
    · show EvT _ (pickSt n .no ns i r2 r3) _ _
      unfold pickSt rowL
      array_get_dec
    · refine st_if0 (b := decide (i < ((ns.map D.int).length : Int))) ?_ (fun e2 => ?_) (fun e2 => ?_)
      · show EvT _ (pickSt n .no ns i r2 r3) _ _
        unfold pickSt rowL
        array_get_dec
      · have lt := of_decide_eq_true e2
        rw [List.length_map] at lt
        have i0 := ok.i
        have hi : i.toNat < ns.length := by omega
        refine st_seq (st_set0 (x := .int (ns[i.toNat])) (ev_op (x := .lst (ns.map .int)) (y := .int i) (ρ1 := pickSt n .no ns i r2 r3) (ev_ixT rfl ev_c at_row0) (ev_ixT rfl ev_c at_row1) (rr_ixL (at_in i0 (by rw [List.getElem?_map, List.getElem?_eq_getElem hi]; rfl)))) ?_)
        dsimp only
        refine st_seq (st_stT (x := .int (i + 1)) (ρ1 := pickSt n (.d (.int (ns[i.toNat]))) ns i r2 r3) (l := [.lst (ns.map .int), .int i, .int r2, .int r3]) (n := 1) (m := 1) (ev_op (ev_ixT rfl ev_c at_row1) ev_c rr_addI) rfl ev_c rfl ?_)
        dsimp only
        have ok1 : RowOk ns (i + 1) r2 r3 := ⟨ok.ns, by omega, ok.p2, ok.b2, ok.p3, ok.b3⟩
        refine st_if0 (b := decide ((10 : Int) ^ (18 : Int).toNat ≤ ns[i.toNat])) ?_ (fun e3 => ?_) (fun e3 => ?_)
        · show EvT _ (pickSt n (.d (.int (ns[i.toNat]))) ns (i + 1) r2 r3) _ _
          unfold pickSt rowL
          array_get_dec
          exact ⟨by decide, by decide, by decide⟩
        · have big := of_decide_eq_true e3
          have p18 : (0 : Int) ≤ (10 : Int) ^ (18 : Int).toNat := by decide
          refine st_stT (x := .int (ns[i.toNat])) (ρ1 := pickSt n (.d (.int (ns[i.toNat]))) ns (i + 1) r2 r3) (l := [.lst (ns.map .int), .int (i + 1), .int r2, .int r3]) (n := 2) (m := 2) (ev_var rfl) rfl ev_c rfl ?_
          exact fin (i + 1) (ns[i.toNat]) r3 _ ⟨ok.ns, ok1.i, Int.le_trans p18 big, ok.ns _ (List.getElem_mem hi), ok.p3, ok.b3⟩
        · refine st_stT (x := .int ((r3 * 48271 + ns[i.toNat] * 69621 + 11) % 2147483647)) (ρ1 := pickSt n (.d (.int (ns[i.toNat]))) ns (i + 1) r2 r3) (l := [.lst (ns.map .int), .int (i + 1), .int r2, .int r3]) (n := 3) (m := 3) ?_ rfl ev_c rfl ?_
          · unfold pickSt rowL
            array_get_dec
            · exact mulS (by decide)
            · exact mulS (by decide)
            · decide
          · exact fin (i + 1) r2 _ _ ⟨ok.ns, ok1.i, ok.p2, ok.b2, (mod_ok _).1, (mod_ok _).2⟩
      · refine st_stT (x := .int ((r3 * 48271 + 7) % 2147483647)) (ρ1 := pickSt n .no ns i r2 r3) (l := [.lst (ns.map .int), .int i, .int r2, .int r3]) (n := 3) (m := 3) ?_ rfl ev_c rfl ?_
        · unfold pickSt rowL
          array_get_dec
          · exact mulS (by decide)
          · decide
        · exact fin i r2 _ _ ⟨ok.ns, ok.i, ok.p2, ok.b2, (mod_ok _).1, (mod_ok _).2⟩
    · exact fin i r2 r3 .no ok
end DL

/-! text RF -/
set_option Elab.async false
set_option linter.all false
set_option maxRecDepth 100000
set_option maxHeartbeats 1000000
set_option exponentiation.threshold 1100000
namespace DL
open PySem PySem.Spec PyProof.Rows L2 RZ
/-- sizeOf_list_dec: one step of a reading's value; array_get_dec: all steps -/
local macro_rules | `(tactic| sizeOf_list_dec) => `(tactic| first
  | exact ev_c | exact ev_var rfl | exact eva_nil | exact evT_yes
  | apply ev_op | apply ev_un | apply ev_not | apply ev_and | apply ev_or | apply ev_chain
  | apply ev_cb | apply ev_call | apply eva_cons | apply ev_tup | apply ev_lst
  | apply evT_val | apply evT_and | apply evT_or | apply evT_not
  | (apply ev_ifI <;> array_get_dec <;> done) | (apply ev_ifS <;> array_get_dec <;> done)
  | exact rr_addI | exact rr_sub | exact rr_lt | exact rr_le | exact rr_gt | exact rr_ge | exact rr_eqI | exact rr_eqS | exact rr_neI | exact rr_neS | exact rr_is | exact rr_isnot | exact rr_eqB | exact rr_neB
  | apply rr_mul | apply rr_div | apply rr_mod | apply rr_pow | exact rr_ixL rfl | exact rr_ixT rfl | apply rr_inL | apply rr_inT | apply rr_notinL | apply rr_notinT
  | exact ru_neg | (intro _; sizeOf_list_dec)
  | exact rr_eq rfl | exact rr_ne rfl
  | exact rc_lenL | exact rc_lenT | exact rc_lenD | exact rc_int | exact rc_intB | exact rc_abs | exact rc_min | exact rc_max | exact rc_tuple | exact rc_list | exact rc_listT
  | array_mem_dec)
local macro_rules | `(tactic| array_get_dec) => `(tactic| repeat' sizeOf_list_dec)
theorem chg_same {ρ : En} {j : Nat} {o : OD} (h : ρ.thing j = some o) : ρ.chg j o = ρ := by
  have key : ∀ {α : Type} (l : List α) (i : Nat) (x : α), l[i]? = some x → l.set i x = l := by
    intro α l i x h
    apply List.ext_getElem?
    intro m
    by_cases e : i = m
    · subst e
      have lt := (List.getElem?_eq_some_iff.mp h).1
      rw [List.getElem?_set_self lt, h]
    · rw [List.getElem?_set_ne e]
  unfold En.thing at h
  unfold En.chg
  split at h
  · rename_i o' e
    cases h
    exact congrArg (fun p => En.mk p ρ.pa) (key _ _ _ e)
  · rename_i k e
    exact congrArg (fun p => En.mk ρ.sl p) (key _ _ _ h)
  · cases h
theorem pick_use {k : Kx} {j : Nat} {t : TAd} {ρ : En} {Q : D → En → Prop} (n : Int) (h0 : ρ.thing j = some .row) (ha : EvA t ρ [.int n] ρ) (n0 : 0 < n) (n1 : n < 2 ^ 3000) (q : ∀ r : Int, 0 ≤ r → r < n → Q (.int r) ρ) : dCall1 j (g_law_pick k) t ρ Q := by
  refine ⟨⟨_, h0⟩, ha _ ⟨.row, h0, rfl, fun ns i r2 r3 ok => ⟨n, rfl, n0, n1, ok, fun r i' r2' r3' h1 h2 ok' => ⟨⟨i', r2', r3', ok', rfl⟩, .row, rfl, ?_⟩⟩⟩⟩
  rw [chg_same h0]
  exact q r h1 h2
/-! the dict of a drawn game -/
def gd2 (s m : D) : List (Key × D) := [(.inr "shape", s), (.inr "many", m)]
def gd3 (s m f : D) : List (Key × D) := [(.inr "shape", s), (.inr "many", m), (.inr "far", f)]
def gd4 (s m f q : D) : List (Key × D) := [(.inr "shape", s), (.inr "many", m), (.inr "far", f), (.inr "quick", q)]
def gd5 (s m f q t : D) : List (Key × D) := [(.inr "shape", s), (.inr "many", m), (.inr "far", f), (.inr "quick", q), (.inr "seen", t)]
section
variable {s m f q t x : D}
theorem ne_sm : ¬ (("shape" : Str) = "many") := by decide +kernel
theorem ne_sf : ¬ (("shape" : Str) = "far") := by decide +kernel
theorem ne_sq : ¬ (("shape" : Str) = "quick") := by decide +kernel
theorem ne_st : ¬ (("shape" : Str) = "seen") := by decide +kernel
theorem ne_mf : ¬ (("many" : Str) = "far") := by decide +kernel
theorem ne_mq : ¬ (("many" : Str) = "quick") := by decide +kernel
theorem ne_mt : ¬ (("many" : Str) = "seen") := by decide +kernel
theorem ne_fq : ¬ (("far" : Str) = "quick") := by decide +kernel
theorem ne_ft : ¬ (("far" : Str) = "seen") := by decide +kernel
theorem ne_qt : ¬ (("quick" : Str) = "seen") := by decide +kernel
theorem ne_ms : ¬ (("many" : Str) = "shape") := fun e => ne_sm e.symm
theorem ne_fs : ¬ (("far" : Str) = "shape") := fun e => ne_sf e.symm
theorem ne_qs : ¬ (("quick" : Str) = "shape") := fun e => ne_sq e.symm
theorem ne_ts : ¬ (("seen" : Str) = "shape") := fun e => ne_st e.symm
theorem ne_fm : ¬ (("far" : Str) = "many") := fun e => ne_mf e.symm
theorem ne_qm : ¬ (("quick" : Str) = "many") := fun e => ne_mq e.symm
theorem ne_tm : ¬ (("seen" : Str) = "many") := fun e => ne_mt e.symm
theorem ne_qf : ¬ (("quick" : Str) = "far") := fun e => ne_fq e.symm
theorem ne_tf : ¬ (("seen" : Str) = "far") := fun e => ne_ft e.symm
theorem ne_tq : ¬ (("seen" : Str) = "quick") := fun e => ne_qt e.symm
theorem merge2 : mergeD [] [(.inr "shape", s), (.inr "many", m)] = gd2 s m := by
  simp [mergeD, putD, gd2, ne_sm]
theorem put_f : putD (gd2 s m) (.inr "far") f = gd3 s m f := by
  simp [putD, gd2, gd3, ne_sf, ne_mf]
theorem put_q : putD (gd3 s m f) (.inr "quick") q = gd4 s m f q := by
  simp [putD, gd3, gd4, ne_sq, ne_mq, ne_fq]
theorem put_t : putD (gd4 s m f q) (.inr "seen") t = gd5 s m f q t := by
  simp [putD, gd4, gd5, ne_st, ne_mt, ne_ft, ne_qt]
theorem put5s : putD (gd5 s m f q t) (.inr "shape") x = gd5 x m f q t := by
  simp [putD, gd5, ne_ms, ne_fs, ne_qs, ne_ts]
theorem put5m : putD (gd5 s m f q t) (.inr "many") x = gd5 s x f q t := by
  simp [putD, gd5, ne_sm, ne_fm, ne_qm, ne_tm]
theorem put5f : putD (gd5 s m f q t) (.inr "far") x = gd5 s m x q t := by
  simp [putD, gd5, ne_sf, ne_mf, ne_qf, ne_tf]
theorem put5q : putD (gd5 s m f q t) (.inr "quick") x = gd5 s m f x t := by
  simp [putD, gd5, ne_sq, ne_mq, ne_fq, ne_tq]
theorem put5t : putD (gd5 s m f q t) (.inr "seen") x = gd5 s m f q x := by
  simp [putD, gd5, ne_st, ne_mt, ne_ft, ne_qt]
theorem val_s : valD (gd5 s m f q t) (.inr "shape") = some s := by simp [valD, gd5]
theorem val_m : valD (gd5 s m f q t) (.inr "many") = some m := by simp [valD, gd5, ne_sm]
theorem val_f : valD (gd5 s m f q t) (.inr "far") = some f := by simp [valD, gd5, ne_sf, ne_mf]
theorem val_q : valD (gd5 s m f q t) (.inr "quick") = some q := by simp [valD, gd5, ne_sq, ne_mq, ne_fq]
theorem val_t : valD (gd5 s m f q t) (.inr "seen") = some t := by simp [valD, gd5, ne_st, ne_mt, ne_ft, ne_qt]
end
theorem lawGD_eq (g : Gm) : lawGD g = gd5 (.str (shapeS g.ring)) (.int g.many) (.int g.far) (.int g.quick) (.str (sightS g.al)) := rfl
section
variable {g : Gm} {te : TEd} {ρ ρ1 : En}
theorem ev_gs (h : Ev te ρ (.dic (lawGD g)) ρ1) : Ev (dGet te (dC (.str "shape"))) ρ (.str (shapeS g.ring)) ρ1 := ev_get h ev_c rfl val_s
theorem ev_gm (h : Ev te ρ (.dic (lawGD g)) ρ1) : Ev (dGet te (dC (.str "many"))) ρ (.int g.many) ρ1 := ev_get h ev_c rfl val_m
theorem ev_gf (h : Ev te ρ (.dic (lawGD g)) ρ1) : Ev (dGet te (dC (.str "far"))) ρ (.int g.far) ρ1 := ev_get h ev_c rfl val_f
theorem ev_gq (h : Ev te ρ (.dic (lawGD g)) ρ1) : Ev (dGet te (dC (.str "quick"))) ρ (.int g.quick) ρ1 := ev_get h ev_c rfl val_q
theorem ev_gt (h : Ev te ρ (.dic (lawGD g)) ρ1) : Ev (dGet te (dC (.str "seen"))) ρ (.str (sightS g.al)) ρ1 := ev_get h ev_c rfl val_t
end
theorem shape_at {r : Int} (h0 : 0 ≤ r) (h1 : r < 2) : ∃ b, atD [.str "path", .str "ring"] r = some (.str (shapeS b)) := by
  have : r = 0 ∨ r = 1 := by omega
  rcases this with rfl | rfl
  · exact ⟨false, rfl⟩
  · exact ⟨true, rfl⟩
theorem sight_at {r : Int} (h0 : 0 ≤ r) (h1 : r < 2) : ∃ b, atD [.str "always", .str "never"] r = some (.str (sightS b)) := by
  have : r = 0 ∨ r = 1 := by omega
  rcases this with rfl | rfl
  · exact ⟨true, rfl⟩
  · exact ⟨false, rfl⟩
theorem st_gs {ρ : En} {Q : En → Prop} (h : Q ρ) : gsNil [] ρ Q := h
theorem two_line {a b : D} : [a, b].length ≤ sizeLine := by rw [sizeLine_eq]; show 2 ≤ 16777216; decide
def drawSt (m f : Int) (g : Sl) : En := ⟨[.par 0, .d (.int m), .d (.int f), g], [.row]⟩
theorem pow3000 : (6 : Int) < 2 ^ 3000 := Int.lt_of_lt_of_le (b := 2 ^ 64) (by decide) (by decide)
theorem sm3000 {n : Int} (h : n < 2 ^ 64) : n < 2 ^ 3000 := Int.lt_of_lt_of_le h (by decide)
theorem r_law_drawn (k : Kx) : Rok 3 1 (g_law_drawn k) (t_law_drawn k) where
  len := by
    rintro qs π R RX ⟨m, f, rfl, _⟩
    rfl
  run := by
    rintro qs π R RX ⟨m, f, rfl, rfl, m1, m6, f1, f5, z⟩
    refine st_seq ?_
    refine ⟨two_line, pick_use 2 rfl (by array_get_dec) (by decide) (by decide) (fun r h0 h1 => ?_)⟩
    obtain ⟨b, hb⟩ := shape_at h0 h1
    refine ⟨_, hb, ?_⟩
    refine pick_use m rfl (by array_get_dec) (by omega) (sm3000 (by omega)) (fun r2 h2 h3 => ?_)
    refine ⟨_, rfl, (by show 2 ≤ 15; decide), ?_⟩
    rw [merge2]
    dsimp only
    refine st_seq ?_
    refine pick_use f rfl (by array_get_dec) (by omega) (sm3000 (by omega)) (fun r3 h4 h5 => ?_)
    refine pick_use 6 rfl (by array_get_dec) (by decide) (sm3000 (by decide)) (fun r4 h6 h7 => ?_)
    refine ⟨two_line, rfl, ?_⟩
    refine ⟨_, rfl, (by rw [sizeLine_eq]; show 2 < 16777216; decide), ?_⟩
    rw [put_f]
    refine ⟨_, rfl, (by rw [sizeLine_eq]; show 3 < 16777216; decide), ?_⟩
    rw [put_q]
    refine st_gs ?_
    refine st_seq ?_
    refine ⟨two_line, pick_use 2 rfl (by array_get_dec) (by decide) (by decide) (fun r5 h8 h9 => ?_)⟩
    obtain ⟨b2, hb2⟩ := sight_at h8 h9
    refine ⟨_, hb2, ?_⟩
    refine ⟨_, rfl, (by rw [sizeLine_eq]; show 4 < 16777216; decide), ?_⟩
    rw [put_t]
    dsimp only
    have i3 : ∀ x : Int, okIn (.int x) [.int 3, .int 5] = true := fun x => rfl
    have in3 : ∀ x : Int, inD (.int x) [.int 3, .int 5] = (decide (3 = x) || decide (5 = x)) := fun x => by simp [inD, eqD]
    refine st_seq (st_if0 (b := b && (!b2 && (decide (3 = 1 + r2) || decide (5 = 1 + r2)))) ?_ (fun e => ?_) (fun e => ?_))
    · refine evT_and (evT_eq0 (b := decide (shapeS b = "ring")) (evT_val (ev_op (ev_getO rfl ev_c rfl val_s) ev_c rr_eqS)) (sh_ring b)) (fun _ => ?_)
      refine evT_and (evT_eq0 (b := decide (sightS b2 = "never")) (evT_val (ev_op (ev_getO rfl ev_c rfl val_t) ev_c rr_eqS)) (al_never b2)) (fun _ => ?_)
      refine evT_val ?_
      rw [← in3]
      exact ev_op (ev_getO rfl ev_c rfl val_m) (ev_lst (eva_cons ev_c (eva_cons ev_c eva_nil)) two_line) (rr_inL (i3 _))
    · refine st_put (x := .int (1 + r2 - 1)) (ρ1 := _) (ev_op (ev_getO rfl ev_c rfl val_m) ev_c rr_sub) rfl ev_c rfl (by rw [sizeLine_eq]; show 5 < 16777216; decide) ?_
      rw [put5m]
      simp only [Bool.and_eq_true, Bool.not_eq_true', Bool.or_eq_true, decide_eq_true_eq] at e
      obtain ⟨e1, e2, e3⟩ := e
      dsimp only
      apply st_retO
      · exact evo_var (o := .dic (gd5 (.str (shapeS b)) (.int (1 + r2 - 1)) (.int (1 + r3)) (.int r4) (.str (sightS b2)))) rfl rfl
      exact z ⟨b, 1 + r2 - 1, 1 + r3, r4, b2⟩ ⟨by show 1 ≤ 1 + r2 - 1; omega, by show 1 + r2 - 1 ≤ 6; omega, by show 1 ≤ 1 + r3; omega, by show 1 + r3 ≤ 5; omega, h6, by show r4 ≤ 5; omega, fun w => by have := w.2.2.2; dsimp only at this; omega⟩ (by show 1 + r2 - 1 ≤ m; omega) (by show 1 + r3 ≤ f; omega)
    · refine st_next ?_
      dsimp only
      apply st_retO
      · exact evo_var (o := .dic (gd5 (.str (shapeS b)) (.int (1 + r2)) (.int (1 + r3)) (.int r4) (.str (sightS b2)))) rfl rfl
      refine z ⟨b, 1 + r2, 1 + r3, r4, b2⟩ ⟨by show 1 ≤ 1 + r2; omega, by show 1 + r2 ≤ 6; omega, by show 1 ≤ 1 + r3; omega, by show 1 + r3 ≤ 5; omega, h6, by show r4 ≤ 5; omega, fun w => ?_⟩ (by show 1 + r2 ≤ m; omega) (by show 1 + r3 ≤ f; omega)
      obtain ⟨w1, w2, w3, w4⟩ := w
      dsimp only at w1 w2 w3 w4
      subst w1
      subst w2
      have : 3 = 1 + r2 ∨ 5 = 1 + r2 := by omega
      rcases this with w | w <;> simp [w] at e
end DL

/-! text RG -/
set_option Elab.async false
set_option linter.all false
set_option maxRecDepth 100000
set_option maxHeartbeats 1000000
set_option exponentiation.threshold 1100000
namespace DL
open PySem PySem.Spec PyProof.Rows L2 RZ
/-- sizeOf_list_dec: one step of a reading's value; array_get_dec: all steps -/
local macro_rules | `(tactic| sizeOf_list_dec) => `(tactic| first
  | exact ev_c | exact ev_var rfl | exact eva_nil | exact evT_yes
  | apply ev_op | apply ev_un | apply ev_not | apply ev_and | apply ev_or | apply ev_chain
  | apply ev_cb | apply ev_call | apply eva_cons | apply ev_tup | apply ev_lst
  | apply evT_val | apply evT_and | apply evT_or | apply evT_not
  | (apply ev_ifI <;> array_get_dec <;> done) | (apply ev_ifS <;> array_get_dec <;> done)
  | exact rr_addI | exact rr_sub | exact rr_lt | exact rr_le | exact rr_gt | exact rr_ge | exact rr_eqI | exact rr_eqS | exact rr_neI | exact rr_neS | exact rr_is | exact rr_isnot | exact rr_eqB | exact rr_neB
  | apply rr_mul | apply rr_div | apply rr_mod | apply rr_pow | exact rr_ixL rfl | exact rr_ixT rfl | apply rr_inL | apply rr_inT | apply rr_notinL | apply rr_notinT
  | exact ru_neg | (intro _; sizeOf_list_dec)
  | exact rr_eq rfl | exact rr_ne rfl
  | exact rc_lenL | exact rc_lenT | exact rc_lenD | exact rc_int | exact rc_intB | exact rc_abs | exact rc_min | exact rc_max | exact rc_tuple | exact rc_list | exact rc_listT
  | array_mem_dec)
local macro_rules | `(tactic| array_get_dec) => `(tactic| repeat' sizeOf_list_dec)
local macro_rules | `(tactic| array_mem_dec) => `(tactic| first | exact ev_gs (ev_var rfl) | exact ev_gm (ev_var rfl) | exact ev_gf (ev_var rfl) | exact ev_gq (ev_var rfl) | exact ev_gt (ev_var rfl) | exact cl_is_ever | exact cl_period_of ‹_› | exact cl_turns_of ‹_›)
theorem okV_str (s : Str) : okV (.str s) := ⟨_, rfl⟩
theorem okV_int (s : Int) : okV (.int s) := ⟨_, rfl⟩
theorem okV_non : okV .non := ⟨_, rfl⟩
theorem okV_bl (b : Bool) : okV (.bl b) := ⟨_, rfl⟩
theorem okV_tup (l : List D) : okV (.tup l) := ⟨_, rfl⟩
theorem okV_lst (l : List D) : okV (.lst l) := ⟨_, rfl⟩
theorem one_shape (b : Bool) : oneD (.str (shapeS b)) shapesD = true := by cases b <;> decide +kernel
theorem one_sight (b : Bool) : oneD (.str (sightS b)) sightsD = true := by cases b <;> decide +kernel
theorem from_ok {i lo hi : Int} (h1 : lo ≤ i) (h2 : i ≤ hi) : fromD (.int i) lo hi = true := by simp [fromD, h1, h2]
theorem untold_eq (g : Gm) : untoldB (shapeS g.ring) g.many (sightS g.al) = (g.ring && (!g.al && (decide (1 < g.many) && decide (g.many % 2 = 1)))) := by
  unfold untoldB
  rw [sh_ring, al_never]
theorem Gm.Ok.noErr {g : Gm} (h : g.Ok) : gameErr (.str (shapeS g.ring)) (.int g.many) (.int g.far) (.int g.quick) (.str (sightS g.al)) = none := by
  unfold gameErr
  rw [one_shape, from_ok h.m1 h.m6, from_ok h.f1 h.f5, from_ok h.q0 h.q5, one_sight]
  dsimp only
  rw [untold_eq]
  rw [if_neg (by decide), if_neg (by decide), if_neg (by decide), if_neg (by decide), if_neg (by decide), if_neg]
  intro w
  simp only [Bool.and_eq_true, Bool.not_eq_true', decide_eq_true_eq] at w
  exact h.told w
theorem evo_make {k : Kx} {RX : RXd} {t : TAd} {ρ ρ1 : En} {s m f q u : D} (h : EvA t ρ [s, m, f, q, u] ρ1) (o : okV s ∧ okV m ∧ okV f ∧ okV q ∧ okV u) (e : gameErr s m f q u = none) :
    EvO (dMakeO (k.cl "Game") (g_Game_init k) RX t) ρ (.ins (k.cl "Game") (fvF s m f q u)) ρ1 := fun Q z => h _ ⟨s, m, f, q, u, rfl, rfl, o, by rw [e]; exact ⟨rfl, _, rfl, z⟩⟩
theorem ev_game {k : Kx} {RX : RXd} {t : TAd} {ρ ρ1 : En} {g : Gm} (h : EvA t ρ [.str (shapeS g.ring), .int g.many, .int g.far, .int g.quick, .str (sightS g.al)] ρ1) (o : g.Ok) : Ev (dStill (dMakeO (k.cl "Game") (g_Game_init k) RX t)) ρ (gameD k g) ρ1 :=
  ev_still (evo_make h ⟨okV_str _, okV_int _, okV_int _, okV_int _, okV_str _⟩ o.noErr) rfl
theorem r_law_made (k : Kx) : Rok 1 0 (g_law_made k) (t_law_made k) where
  len := by
    rintro qs π R RX ⟨ds, rfl, rfl, g, rfl, _⟩
    rfl
  run := by
    rintro qs π R RX ⟨ds, rfl, rfl, g, rfl, o, z⟩
    refine st_ret0 (ev_game (g := g) ?_ o) z
    array_get_dec
theorem cl_law_made {k : Kx} {g : Gm} (o : g.Ok) : Cl (g_law_made k) [.dic (lawGD g)] (gameD k g) := fun R X z => ⟨_, rfl, rfl, g, rfl, o, z⟩
theorem isNon_opt (a : Option Int) : isNon (optD a) = a.isNone := by cases a <;> rfl
theorem r_law_is_more (k : Kx) : Rok 2 0 (g_law_is_more k) (t_law_is_more k) where
  len := by
    rintro qs π R RX ⟨ds, rfl, rfl, a, b, rfl, _⟩
    rfl
  run := by
    rintro qs π R RX ⟨ds, rfl, rfl, a, b, rfl, z⟩
    refine st_seq (st_if0 (b := isNon (optD a) || isNon (optD b)) ?_ (fun e => ?_) (fun e => ?_))
    · array_get_dec
    · refine st_ret0 (x := .bl (isNon (optD a) && !isNon (optD b))) ?_ ?_
      · array_get_dec
      · cases a <;> cases b <;> first | exact z | cases e
    · refine st_next ?_
      dsimp only
      cases a with
      | none => cases e
      | some a =>
        cases b with
        | none => cases e
        | some b =>
          refine st_ret0 ?_ z
          show Ev _ ⟨[.d (.int a), .d (.int b)], []⟩ _ _
          array_get_dec
theorem cl_law_is_more {k : Kx} {a b : Option Int} : Cl (g_law_is_more k) [optD a, optD b] (.bl (moreB a b)) := fun R X z => ⟨_, rfl, rfl, a, b, rfl, z⟩
theorem r_is_slower (k : Kx) : Rok 3 2 (g_is_slower k) (t_is_slower k) where
  len := by
    rintro qs π R RX ⟨ds, rfl, rfl, g, h, n, rfl, _⟩
    rfl
  run := by
    rintro qs π R RX ⟨ds, rfl, rfl, g, h, n, rfl, og, oh, z⟩
    unfold slowerB at z
    refine st_seq (st_par (x := optD (turnsO g n)) (y := optD (turnsO h n)) (ρ1 := ⟨[.d (gameD k g), .d (gameD k h), .d (.int n), .no, .no], []⟩) (ρ2 := ⟨[.d (gameD k g), .d (gameD k h), .d (.int n), .no, .no], []⟩) (ev_call0 (xs := [gameD k g, .int n]) ?_ (cl_turns_of og)) (ev_call0 (xs := [gameD k h, .int n]) ?_ (cl_turns_of oh)) ?_)
    · array_get_dec
    · array_get_dec
    dsimp only
    generalize turnsO g n = a at z ⊢
    generalize turnsO h n = b at z ⊢
    refine st_seq (st_if0 (b := isNon (optD a) || isNon (optD b)) ?_ (fun e => ?_) (fun e => ?_))
    · array_get_dec
    · refine st_ret0 (x := .bl (isNon (optD a) && !isNon (optD b))) ?_ ?_
      · array_get_dec
      · cases a <;> cases b <;> first | exact z | cases e
    · refine st_next ?_
      dsimp only
      cases a with
      | none => cases e
      | some a =>
        cases b with
        | none => cases e
        | some b =>
          refine st_ret0 ?_ z
          exact ev_op (x := .int a) (y := .int b) (ev_var rfl) (ev_var rfl) rr_gt
theorem cl_is_slower {k : Kx} {g h : Gm} {n : Int} (og : g.Ok) (oh : h.Ok) : Cl (g_is_slower k) [gameD k g, gameD k h, .int n] (.bl (slowerB g h n)) := fun R X z => ⟨_, rfl, rfl, g, h, n, rfl, og, oh, z⟩
/-- a call whose answer is told by a word alone -/
theorem alike_use {k : Kx} {RX : RXd} {t : TAd} {ρ : En} {Q : D → En → Prop} {g h : Gm} (og : g.Ok) (oh : h.Ok) (ha : EvA t ρ [gameD k g, gameD k h] ρ) (q : ∀ r, IsPart g h r → Q (optD r) ρ) : dCall (g_parting k) RX t ρ Q := ha _ ⟨_, rfl, rfl, g, h, rfl, og, oh, fun r hr => q r hr⟩
theorem r_alike (k : Kx) : Rok 2 0 (g_alike k) (t_alike k) where
  len := by
    rintro qs π R RX ⟨ds, rfl, rfl, g, h, rfl, _⟩
    rfl
  run := by
    rintro qs π R RX ⟨ds, rfl, rfl, g, h, rfl, og, oh, z⟩
    refine alike_use og oh (by array_get_dec) (fun r hr => ?_)
    refine z _ ?_
    rw [isNon_opt]
    cases r with
    | none => exact ⟨fun _ => hr, fun _ => rfl⟩
    | some n => exact ⟨fun w => (by cases w), fun w => absurd (w n hr.1) hr.2.1⟩
theorem r_check_parts (k : Kx) : Rok 4 0 (g_check_parts k) (t_check_parts k) where
  len := by
    rintro qs π R RX ⟨ds, rfl, rfl, s, f, q, t, rfl, _⟩
    rfl
  run := by
    rintro qs π R RX ⟨ds, rfl, rfl, s, f, q, t, rfl, ⟨o1, o3, o4, o5⟩, z⟩
    unfold partsErr at z
    have c1 := cl_is_one_of (k := k) (l := shapesD) o1 rfl
    have c3 := cl_is_from (k := k) (lo := 1) (hi := 5) o3
    have c4 := cl_is_from (k := k) (lo := 0) (hi := 5) o4
    have c5 := cl_is_one_of (k := k) (l := sightsD) o5 rfl
    refine st_chk (ev_call0 (by array_get_dec) c1) (fun e => ?_) (fun e => ?_)
    · rw [if_pos e] at z; exact z
    rw [if_neg (by rw [e]; decide)] at z
    refine st_chk (ev_call0 (by array_get_dec) c3) (fun e => ?_) (fun e => ?_)
    · rw [if_pos e] at z; exact z
    rw [if_neg (by rw [e]; decide)] at z
    refine st_chk (ev_call0 (by array_get_dec) c4) (fun e => ?_) (fun e => ?_)
    · rw [if_pos e] at z; exact z
    rw [if_neg (by rw [e]; decide)] at z
    refine st_chk1 (ev_call0 (by array_get_dec) c5) (fun e => ?_) (fun e => ?_)
    · rw [if_pos e] at z; exact z
    rw [if_neg (by rw [e]; decide)] at z
    exact z
theorem cl_check_parts {k : Kx} {s f q t : D} (o : okV s ∧ okV f ∧ okV q ∧ okV t) (e : partsErr s f q t = none) : Cl (g_check_parts k) [s, f, q, t] .non := fun R X z => ⟨_, rfl, rfl, s, f, q, t, rfl, o, by rw [e]; exact z⟩
theorem shape_of {x : D} (h : oneD x shapesD = true) : ∃ b, x = .str (shapeS b) := by
  cases x with
  | str s =>
    have e : ((decide (("path" : Str) = s)) || (decide (("ring" : Str) = s))) = true := by
      have : oneD (.str s) shapesD = ((decide (("path" : Str) = s)) || (decide (("ring" : Str) = s))) := by simp [oneD, inD, shapesD, eqD]
      rw [← this]; exact h
    simp only [Bool.or_eq_true, decide_eq_true_eq] at e
    rcases e with e | e
    · exact ⟨false, by rw [← e]; rfl⟩
    · exact ⟨true, by rw [← e]; rfl⟩
  | _ => cases h
theorem sight_of {x : D} (h : oneD x sightsD = true) : ∃ b, x = .str (sightS b) := by
  cases x with
  | str s =>
    have e : ((decide (("always" : Str) = s)) || (decide (("never" : Str) = s))) = true := by
      have : oneD (.str s) sightsD = ((decide (("always" : Str) = s)) || (decide (("never" : Str) = s))) := by simp [oneD, inD, sightsD, eqD]
      rw [← this]; exact h
    simp only [Bool.or_eq_true, decide_eq_true_eq] at e
    rcases e with e | e
    · exact ⟨true, by rw [← e]; rfl⟩
    · exact ⟨false, by rw [← e]; rfl⟩
  | _ => cases h
theorem from_of {x : D} {lo hi : Int} (h : fromD x lo hi = true) : ∃ i, x = .int i ∧ lo ≤ i ∧ i ≤ hi := by
  cases x with
  | int i =>
    simp only [fromD, Bool.and_eq_true, decide_eq_true_eq] at h
    exact ⟨i, rfl, h⟩
  | _ => cases h
theorem parts_form {s f q t : D} (h : partsErr s f q t = none) : ∃ b i j c, s = .str (shapeS b) ∧ f = .int i ∧ q = .int j ∧ t = .str (sightS c) ∧ 1 ≤ i ∧ i ≤ 5 ∧ 0 ≤ j ∧ j ≤ 5 := by
  unfold partsErr at h
  split at h
  · cases h
  split at h
  · cases h
  split at h
  · cases h
  split at h
  · cases h
  rename_i h1 h2 h3 h4
  obtain ⟨b, rfl⟩ := shape_of (x := s) (by simpa using h1)
  obtain ⟨i, rfl, i1, i2⟩ := from_of (x := f) (by simpa using h2)
  obtain ⟨j, rfl, j1, j2⟩ := from_of (x := q) (by simpa using h3)
  obtain ⟨c, rfl⟩ := sight_of (x := t) (by simpa using h4)
  exact ⟨b, i, j, c, rfl, rfl, rfl, rfl, i1, i2, j1, j2⟩
theorem parts_none {b c : Bool} {i j : Int} (h1 : 1 ≤ i) (h2 : i ≤ 5) (h3 : 0 ≤ j) (h4 : j ≤ 5) : partsErr (.str (shapeS b)) (.int i) (.int j) (.str (sightS c)) = none := by
  unfold partsErr
  rw [one_shape, from_ok h1 h2, from_ok h3 h4, one_sight]
  rfl
theorem r_fewest (k : Kx) : Rok 4 0 (g_fewest k) (t_fewest k) where
  len := by
    rintro qs π R RX ⟨ds, rfl, rfl, s, f, q, t, rfl, _⟩
    rfl
  run := by
    rintro qs π R RX ⟨ds, rfl, rfl, s, f, q, t, rfl, o, z⟩
    refine st_seq ?_
    show dCall (g_check_parts k) _ _ _ _
    have a : EvA (dCons (dVar 0) (dCons (dVar 1) (dCons (dVar 2) (dCons (dVar 3) dNil)))) ⟨[.d s, .d f, .d q, .d t], []⟩ [s, f, q, t] ⟨[.d s, .d f, .d q, .d t], []⟩ := by array_get_dec
    refine a _ ⟨_, rfl, rfl, s, f, q, t, rfl, o, ?_⟩
    cases e : partsErr s f q t with
    | some w => rw [e] at z; exact z
    | none =>
      rw [e] at z
      dsimp only at z ⊢
      obtain ⟨b, i, j, c, rfl, rfl, rfl, rfl, _⟩ := parts_form e
      have z := z b i j rfl rfl rfl
      unfold retD
      dsimp only
      have e2 : fewestI b i j = if (!b || decide (j < i)) = true then 1 else 2 := by
        unfold fewestI
        cases b <;> simp
      rw [e2] at z
      refine st_ret0 (ev_ifI0 (evT_eq0 (b := decide (shapeS b = "path") || decide (j < i)) ?_ (by rw [sh_path])) (fun _ => ev_c) (fun _ => ev_c)) z
      array_get_dec
theorem cl_fewest {k : Kx} {b c : Bool} {i j : Int} (h1 : 1 ≤ i) (h2 : i ≤ 5) (h3 : 0 ≤ j) (h4 : j ≤ 5) : Cl (g_fewest k) [.str (shapeS b), .int i, .int j, .str (sightS c)] (.int (fewestI b i j)) := fun R X z =>
  ⟨_, rfl, rfl, _, _, _, _, rfl, ⟨okV_str _, okV_int _, okV_int _, okV_str _⟩, by
    rw [parts_none h1 h2 h3 h4]
    intro b' i' j' e1 e2 e3
    have : b = b' := by
      cases b <;> cases b' <;> first | rfl | (exfalso; have := congrArg (fun d => match d with | D.str s => decide (s = "ring") | _ => false) e1; revert this; decide +kernel)
    subst this
    cases e2
    cases e3
    exact z⟩
end DL

/-! text RH -/
set_option Elab.async false
set_option linter.all false
set_option maxRecDepth 100000
set_option maxHeartbeats 1000000
set_option exponentiation.threshold 1100000
namespace DL
open PySem PySem.Spec PyProof.Rows L2 RZ
/-! ### the turns, from twelve posts on -/
theorem up_add {a b : Int} (h : 0 < b) : upI (a + b) b = upI a b + 1 := by
  unfold upI
  have e : -(a + b) = -a + (-1) * b := by omega
  rw [e, Int.add_mul_ediv_right _ _ (by omega)]
  omega
theorem ever_iff (g : Gm) : everB g = true ↔ ¬ (g.ring = true ∧ ¬ 1 < g.many ∧ ¬ g.quick < g.far) := by
  unfold everB
  cases g.ring <;> simp
  omega
section
variable {g h : Gm} {n : Int}
theorem t_none (o : g.Ok) (e : everB g = false) (hn : 12 ≤ n) : turnsO g n = none := by
  have w : g.ring = true ∧ ¬ 1 < g.many ∧ ¬ g.quick < g.far := by
    cases e2 : decide (g.ring = true ∧ ¬ 1 < g.many ∧ ¬ g.quick < g.far) with
    | true => exact of_decide_eq_true e2
    | false =>
      rw [(ever_iff g).mpr (of_decide_eq_false e2)] at e
      cases e
  have h1 := o.m1
  have h5 := o.f5
  unfold turnsO
  rw [if_pos ⟨w.1, by omega⟩]
  unfold aloneT
  rw [if_neg (by omega)]
  unfold roundT
  rw [if_neg (by split <;> omega), if_neg w.2.2]
theorem t_some (o : g.Ok) (e : everB g = true) : ∃ t, turnsO g n = some t := by
  unfold turnsO
  split
  · rename_i w
    have hq : g.quick < g.far := by
      have := (ever_iff g).mp e
      cases e2 : decide (g.quick < g.far) with
      | true => exact of_decide_eq_true e2
      | false => exact absurd ⟨w.1, by omega, of_decide_eq_false e2⟩ this
    unfold aloneT roundT
    simp only [if_pos hq]
    repeat' split
    all_goals exact ⟨_, rfl⟩
  · exact ⟨_, rfl⟩
theorem t_step (o : g.Ok) (e : everB g = true) (hn : 12 ≤ n) {t : Int} (ht : turnsO g n = some t) : turnsO g (n + periodI g) = some (t + 1) := by
  have p := period_ok o e
  have h1 := o.m1
  have h6 := o.m6
  have f5 := o.f5
  unfold turnsO at ht ⊢
  by_cases w : g.ring = true ∧ g.many = 1
  · rw [if_pos w] at ht ⊢
    have hq : g.quick < g.far := by
      have := (ever_iff g).mp e
      cases e2 : decide (g.quick < g.far) with
      | true => exact of_decide_eq_true e2
      | false => exact absurd ⟨w.1, by omega, of_decide_eq_false e2⟩ this
    unfold periodI at p ⊢
    rw [if_pos w] at p ⊢
    unfold aloneT at ht ⊢
    rw [if_neg (by omega)] at ht ⊢
    unfold roundT at ht ⊢
    unfold sidesI at p ⊢
    cases ha : g.al with
    | true =>
      rw [ha] at ht p
      simp only [if_true] at ht p ⊢
      rw [if_neg (by omega), if_pos hq] at ht ⊢
      have e3 : (n + (g.far - g.quick) * 2) / 2 - g.quick = n / 2 - g.quick + (g.far - g.quick) := by omega
      rw [e3, up_add (by omega)]
      cases ht
      rfl
    | false =>
      rw [ha] at ht p
      simp only [Bool.false_eq_true, if_false] at ht p ⊢
      rw [if_neg (by omega), if_pos hq] at ht ⊢
      have e3 : n + (g.far - g.quick) * 1 - 1 - g.quick = n - 1 - g.quick + (g.far - g.quick) := by omega
      rw [e3, up_add (by omega)]
      cases ht
      rfl
  · rw [if_neg w] at ht ⊢
    have e2 : periodI g = sidesI g.al * g.many * g.far := by
      unfold periodI
      rw [if_neg w, Int.mul_comm, Int.mul_assoc]
    rw [← e2] at ht ⊢
    have e3 : max 0 (n + periodI g - g.many) = max 0 (n - g.many) + periodI g := by omega
    rw [e3, up_add p.1]
    cases ht
    rfl
theorem t_steps (o : g.Ok) (e : everB g = true) (hn : 12 ≤ n) {t : Int} (ht : turnsO g n = some t) : ∀ j : Nat, turnsO g (n + j * periodI g) = some (t + j)
  | 0 => by simpa using ht
  | j + 1 => by
    have p := period_ok o e
    have pj : 0 ≤ (j : Int) * periodI g := Int.mul_nonneg (by omega) (by omega)
    have := t_step o e (n := n + j * periodI g) (by omega) (t_steps o e hn ht j)
    have e1 : n + ((j + 1 : Nat) : Int) * periodI g = n + j * periodI g + periodI g := by
      rw [Int.natCast_add, Int.add_mul]
      show n + (j * periodI g + 1 * periodI g) = _
      omega
    rw [e1, this]
    congr 1
    omega
theorem t_whole (o : g.Ok) (e : everB g = true) (hn : 12 ≤ n) {t w : Int} (ht : turnsO g n = some t) (w0 : 0 ≤ w) (hw : periodI g ∣ w) : turnsO g (n + w) = some (t + w / periodI g) := by
  have p := period_ok o e
  obtain ⟨q, rfl⟩ := hw
  have q0 : 0 ≤ q := by
    cases Int.lt_or_le q 0 with
    | inl h => exact absurd (Int.mul_neg_of_pos_of_neg p.1 h) (by omega)
    | inr h => exact h
  obtain ⟨j, rfl⟩ : ∃ j : Nat, q = j := ⟨q.toNat, by omega⟩
  rw [Int.mul_ediv_cancel_left _ (by omega), Int.mul_comm]
  exact t_steps o e hn ht j
theorem stepW_ok {w : Int} (o : g.Ok) (h : 0 < w) : 0 < stepW w g ∧ w ∣ stepW w g ∧ (everB g = true → periodI g ∣ stepW w g) ∧ stepW w g ≤ w * 60 := by
  unfold stepW
  by_cases e : everB g = true
  · rw [if_pos e]
    have p := period_ok o e
    have gp : 0 < (Int.gcd w (periodI g) : Int) := by
      have := Int.gcd_pos_of_ne_zero_left (b := periodI g) (show w ≠ 0 by omega)
      omega
    have d1 : (Int.gcd w (periodI g) : Int) ∣ w := Int.gcd_dvd_left ..
    have d2 : (Int.gcd w (periodI g) : Int) ∣ periodI g := Int.gcd_dvd_right ..
    obtain ⟨a, ea⟩ := d1
    obtain ⟨b, eb⟩ := d2
    generalize (Int.gcd w (periodI g) : Int) = c at *
    have ww : w / c = a := by rw [ea]; exact Int.mul_ediv_cancel_left _ (by omega)
    rw [ww]
    have a0 : 0 < a := by
      cases Int.lt_or_le 0 a with
      | inl h => exact h
      | inr h' => exact absurd (Int.mul_nonpos_of_nonneg_of_nonpos (show 0 ≤ c by omega) h') (by omega)
    refine ⟨Int.mul_pos a0 p.1, ⟨b, ?_⟩, fun _ => ⟨a, Int.mul_comm _ _⟩, ?_⟩
    · rw [eb, ea, Int.mul_comm c a, Int.mul_assoc]
    · have h1 : a ≤ w := by
        rw [ea]
        have := Int.mul_le_mul_of_nonneg_right (show 1 ≤ c by omega) (show 0 ≤ a by omega)
        omega
      exact Int.le_trans (Int.mul_le_mul_of_nonneg_right h1 (by omega)) (Int.mul_le_mul_of_nonneg_left p.2 (by omega))
  · rw [if_neg e]
    exact ⟨h, ⟨1, by omega⟩, fun w => absurd w e, by omega⟩
theorem whole_ok (og : g.Ok) (oh : h.Ok) : 0 < wholeI g h ∧ wholeI g h ≤ 3600 ∧ (everB g = true → periodI g ∣ wholeI g h) ∧ (everB h = true → periodI h ∣ wholeI g h) := by
  rw [whole_step]
  obtain ⟨a1, a2, a3, a4⟩ := stepW_ok og (w := 1) (by decide)
  obtain ⟨b1, b2, b3, b4⟩ := stepW_ok oh a1
  exact ⟨b1, by omega, fun e => Int.dvd_trans (a3 e) b2, b3⟩
/-- alike up to twelve and the whole: then the gains are the same, and all is alike -/
theorem part_gain (og : g.Ok) (oh : h.Ok) (hs : ∀ m, 1 ≤ m → m < 12 + wholeI g h + 1 → turnsO g m = turnsO h m) : gainO g (wholeI g h) = gainO h (wholeI g h) := by
  obtain ⟨w0, w1, w2, w3⟩ := whole_ok og oh
  unfold gainO
  have e12 := hs 12 (by decide) (by omega)
  cases eg : everB g with
  | false =>
    cases eh : everB h with
    | false => rfl
    | true =>
      obtain ⟨t, ht⟩ := t_some (n := 12) oh eh
      rw [t_none og eg (by decide), ht] at e12
      cases e12
  | true =>
    obtain ⟨t, ht⟩ := t_some (n := 12) og eg
    cases eh : everB h with
    | false =>
      rw [t_none oh eh (by decide), ht] at e12
      cases e12
    | true =>
      have e1 := hs (12 + wholeI g h) (by omega) (by omega)
      rw [t_whole og eg (by decide) ht (by omega) (w2 eg), t_whole oh eh (by decide) (e12 ▸ ht) (by omega) (w3 eh)] at e1
      have := Option.some.inj e1
      rw [if_pos rfl, if_pos rfl]
      congr 1
      omega
theorem part_all (og : g.Ok) (oh : h.Ok) (hs : ∀ m, 1 ≤ m → m < 12 + wholeI g h + 1 → turnsO g m = turnsO h m) : ∀ m, 1 ≤ m → turnsO g m = turnsO h m := by
  obtain ⟨w0, w1, w2, w3⟩ := whole_ok og oh
  have eg0 := part_gain og oh hs
  have key : ∀ (k : Nat) (m : Int), 1 ≤ m → m ≤ k → turnsO g m = turnsO h m := by
    intro k
    induction k with
    | zero => intro m h1 h2; omega
    | succ k ih =>
      intro m h1 h2
      by_cases small : m < 12 + wholeI g h + 1
      · exact hs m h1 small
      · have ihm := ih (m - wholeI g h) (by omega) (by omega)
        cases eg : everB g with
        | false =>
          cases eh : everB h with
          | false => rw [t_none og eg (by omega), t_none oh eh (by omega)]
          | true => unfold gainO at eg0; rw [eg, eh, if_neg (by decide), if_pos rfl] at eg0; cases eg0
        | true =>
          cases eh : everB h with
          | false => unfold gainO at eg0; rw [eg, eh, if_pos rfl, if_neg (by decide)] at eg0; cases eg0
          | true =>
            obtain ⟨t, ht⟩ := t_some (n := m - wholeI g h) og eg
            have a := t_whole og eg (by omega) ht (by omega) (w2 eg)
            have b := t_whole oh eh (by omega) (ihm ▸ ht) (by omega) (w3 eh)
            have em : m - wholeI g h + wholeI g h = m := by omega
            rw [em] at a b
            unfold gainO at eg0
            rw [eg, eh, if_pos rfl, if_pos rfl] at eg0
            have := Option.some.inj eg0
            rw [a, b, this]
  intro m h1
  exact key m.toNat m h1 (by omega)
end
end DL

/-! text RI -/
set_option Elab.async false
set_option linter.all false
set_option maxRecDepth 100000
set_option maxHeartbeats 1000000
set_option exponentiation.threshold 1100000
namespace DL
open PySem PySem.Spec PyProof.Rows L2 RZ
/-- sizeOf_list_dec: one step of a reading's value; array_get_dec: all steps -/
local macro_rules | `(tactic| sizeOf_list_dec) => `(tactic| first
  | exact ev_c | exact ev_var rfl | exact eva_nil | exact evT_yes
  | apply ev_op | apply ev_un | apply ev_not | apply ev_and | apply ev_or | apply ev_chain
  | apply ev_cb | apply ev_call | apply eva_cons | apply ev_tup | apply ev_lst
  | apply evT_val | apply evT_and | apply evT_or | apply evT_not
  | (apply ev_ifI <;> array_get_dec <;> done) | (apply ev_ifS <;> array_get_dec <;> done)
  | exact rr_addI | exact rr_sub | exact rr_lt | exact rr_le | exact rr_gt | exact rr_ge | exact rr_eqI | exact rr_eqS | exact rr_neI | exact rr_neS | exact rr_is | exact rr_isnot | exact rr_eqB | exact rr_neB
  | apply rr_mul | apply rr_div | apply rr_mod | apply rr_pow | exact rr_ixL rfl | exact rr_ixT rfl | apply rr_inL | apply rr_inT | apply rr_notinL | apply rr_notinT
  | exact ru_neg | (intro _; sizeOf_list_dec)
  | exact rr_eq rfl | exact rr_ne rfl
  | exact rc_lenL | exact rc_lenT | exact rc_lenD | exact rc_int | exact rc_intB | exact rc_abs | exact rc_min | exact rc_max | exact rc_tuple | exact rc_list | exact rc_listT
  | array_mem_dec)
local macro_rules | `(tactic| array_get_dec) => `(tactic| repeat' sizeOf_list_dec)
local macro_rules | `(tactic| array_mem_dec) => `(tactic| first | exact cl_is_ever | exact cl_period_of ‹_› | exact cl_turns_of ‹_› | exact cl_gain_of ‹_› | exact cl_bounds ‹_› ‹_› | exact cl_is_slower ‹_› ‹_›)
section
variable {g h : Gm}
theorem opt_eq (a b : Option Int) : eqOk (optD a) (optD b) = true ∧ eqD (optD a) (optD b) = decide (a = b) := by
  cases a <;> cases b <;> simp [optD, eqOk, scalD, eqD]
theorem rr_neO {a b : Option Int} : RR oNe (optD a) (optD b) (.bl (!decide (a = b))) := by
  have := rr_ne (opt_eq a b).1
  rw [(opt_eq a b).2] at this
  exact this
theorem rr_eqO {a b : Option Int} : RR oEq (optD a) (optD b) (.bl (decide (a = b))) := by
  have := rr_eq (opt_eq a b).1
  rw [(opt_eq a b).2] at this
  exact this
theorem r_parting (k : Kx) : Rok 2 3 (g_parting k) (t_parting k) where
  len := by
    rintro qs π R RX ⟨ds, rfl, rfl, g, h, rfl, _⟩
    rfl
  run := by
    rintro qs π R RX ⟨ds, rfl, rfl, g, h, rfl, og, oh, z⟩
    obtain ⟨w0, w1, w2, w3⟩ := whole_ok og oh
    have hsame := part_gain og oh
    have hall := part_all og oh
    generalize hw : wholeI g h = w at *
    refine st_seq (st_two (x := .int 12) (y := .int w) (ρ1 := ⟨[.d (gameD k g), .d (gameD k h), .no, .no, .no], []⟩) ?_ ?_)
    · rw [← hw]
      refine ev_call0 (xs := [gameD k g, gameD k h]) ?_ (cl_bounds og oh)
      array_get_dec
    dsimp only
    refine st_seq (st_for (rangeD 1 (12 + w + 1 - 1).toNat) (it_r2 ev_c (n := 12 + w + 1) (by array_get_dec) ?_) (fun i ρ => (∀ m : Int, 1 ≤ m → m < 1 + i → turnsO g m = turnsO h m) ∧ ∃ s, ρ = ⟨[.d (gameD k g), .d (gameD k h), .d (.int 12), .d (.int w), s], []⟩) ⟨fun m h1 h2 => by omega, _, rfl⟩ ?_ ?_)
    · omega
    · rintro i d ρ hd ⟨hm, s, rfl⟩
      have hi : i < (12 + w + 1 - 1).toNat := by
        have := (List.getElem?_eq_some_iff.mp hd).1
        rwa [rangeD_len] at this
      rw [rangeD_get hi] at hd
      cases hd
      refine st_if0 (b := !decide (turnsO g (1 + i) = turnsO h (1 + i))) ?_ (fun e => ?_) (fun e => ?_)
      · refine evT_val (ev_op (x := optD (turnsO g (1 + i))) (y := optD (turnsO h (1 + i))) (ρ1 := ⟨[.d (gameD k g), .d (gameD k h), .d (.int 12), .d (.int w), .d (.int (1 + i))], []⟩) ?_ ?_ rr_neO)
        · refine ev_call (xs := [gameD k g, .int (1 + i)]) ?_ (cl_turns_of og)
          array_get_dec
        · refine ev_call (xs := [gameD k h, .int (1 + i)]) ?_ (cl_turns_of oh)
          array_get_dec
      · simp only [Bool.not_eq_true', decide_eq_false_iff_not] at e
        refine st_ret0 (ev_var rfl) ?_
        exact z (some (1 + i)) ⟨by omega, e, fun m h1 h2 => hm m h1 h2⟩
      · simp only [Bool.not_eq_false', decide_eq_true_eq] at e
        refine st_next ⟨fun m h1 h2 => ?_, _, rfl⟩
        by_cases q : m = 1 + i
        · rw [q]; exact e
        · exact hm m h1 (by omega)
    · rintro ρ ⟨hm, s, rfl⟩
      rw [rangeD_len] at hm
      have hm' : ∀ m, 1 ≤ m → m < 12 + w + 1 → turnsO g m = turnsO h m := fun m h1 h2 => hm m h1 (by omega)
      dsimp only
      refine st_seq (st_if0 (b := decide (gainO g w = gainO h w)) ?_ (fun e => ?_) (fun e => ?_))
      · refine evT_val (ev_op (x := optD (gainO g w)) (y := optD (gainO h w)) (ρ1 := ⟨[.d (gameD k g), .d (gameD k h), .d (.int 12), .d (.int w), s], []⟩) ?_ ?_ rr_eqO)
        · refine ev_call (xs := [gameD k g, .int w]) ?_ (cl_gain_of og)
          array_get_dec
        · refine ev_call (xs := [gameD k h, .int w]) ?_ (cl_gain_of oh)
          array_get_dec
      · exact st_ret0 ev_c (z none (hall hm'))
      · exact absurd (hsame hm') (of_decide_eq_false e)
theorem slow_none {a : Option Int} {n : Int} (hh : turnsO h n = none) (hg : turnsO g n = a) : slowerB g h n = false := by
  unfold slowerB
  rw [hh, hg]
  cases a <;> rfl
theorem slow_some {a b n : Int} (hg : turnsO g n = some a) (hh : turnsO h n = some b) : slowerB g h n = decide (b < a) := by
  unfold slowerB
  rw [hh, hg]
theorem never_all (og : g.Ok) (oh : h.Ok) (hs : ∀ m, 1 ≤ m → m < 12 + wholeI g h + 1 → slowerB g h m = false) (eg : everB g = true) (eh : everB h = true) :
    wholeI g h / periodI g ≤ wholeI g h / periodI h ↔ ∀ m, 1 ≤ m → slowerB g h m = false := by
  obtain ⟨w0, w1, w2, w3⟩ := whole_ok og oh
  generalize hw : wholeI g h = w at *
  constructor
  · intro le
    have key : ∀ (k : Nat) (m : Int), 1 ≤ m → m ≤ k → slowerB g h m = false := by
      intro k
      induction k with
      | zero => intro m h1 h2; omega
      | succ k ih =>
        intro m h1 h2
        by_cases small : m < 12 + w + 1
        · exact hs m h1 small
        · have ihm := ih (m - w) (by omega) (by omega)
          obtain ⟨t, ht⟩ := t_some (n := m - w) og eg
          obtain ⟨u, hu⟩ := t_some (n := m - w) oh eh
          have a := t_whole og eg (by omega) ht (by omega) (w2 eg)
          have b := t_whole oh eh (by omega) hu (by omega) (w3 eh)
          have em : m - w + w = m := by omega
          rw [em] at a b
          rw [slow_some ht hu] at ihm
          rw [slow_some a b]
          have := of_decide_eq_false ihm
          exact decide_eq_false (by omega)
    intro m h1
    exact key m.toNat m h1 (by omega)
  · intro hn
    cases e : decide (w / periodI g ≤ w / periodI h) with
    | true => exact of_decide_eq_true e
    | false =>
      have lt := of_decide_eq_false e
      obtain ⟨t, ht⟩ := t_some (n := 12) og eg
      obtain ⟨u, hu⟩ := t_some (n := 12) oh eh
      have pg := period_ok og eg
      have ph := period_ok oh eh
      have many : ∀ j : Nat, turnsO g (12 + j * w) = some (t + j * (w / periodI g)) ∧ turnsO h (12 + j * w) = some (u + j * (w / periodI h)) := by
        intro j
        have jw : 0 ≤ (j : Int) * w := Int.mul_nonneg (by omega) (by omega)
        obtain ⟨x, ex⟩ := w2 eg
        obtain ⟨y, ey⟩ := w3 eh
        have a := t_whole og eg (by decide) ht jw (Int.dvd_trans (w2 eg) ⟨(j : Int), Int.mul_comm _ _⟩)
        have b := t_whole oh eh (by decide) hu jw (Int.dvd_trans (w3 eh) ⟨(j : Int), Int.mul_comm _ _⟩)
        have ea : (j : Int) * w / periodI g = j * (w / periodI g) := Int.mul_ediv_assoc _ (w2 eg)
        have eb : (j : Int) * w / periodI h = j * (w / periodI h) := Int.mul_ediv_assoc _ (w3 eh)
        rw [ea] at a
        rw [eb] at b
        exact ⟨a, b⟩
      exfalso
      have jj : ∃ j : Nat, u - t < j := ⟨(u - t + 1).toNat, by omega⟩
      obtain ⟨j, hj⟩ := jj
      obtain ⟨a, b⟩ := many j
      have jw : 0 ≤ (j : Int) * w := Int.mul_nonneg (by omega) (by omega)
      have := hn (12 + j * w) (by omega)
      rw [slow_some a b] at this
      have := of_decide_eq_false this
      have grow : (j : Int) * (w / periodI h) + j ≤ j * (w / periodI g) := by
        have := Int.mul_le_mul_of_nonneg_left (show w / periodI h + 1 ≤ w / periodI g by omega) (show (0 : Int) ≤ j by omega)
        rw [Int.mul_add] at this
        omega
      omega
theorem r_never_slower (k : Kx) : Rok 2 3 (g_never_slower k) (t_never_slower k) where
  len := by
    rintro qs π R RX ⟨ds, rfl, rfl, g, h, rfl, _⟩
    rfl
  run := by
    rintro qs π R RX ⟨ds, rfl, rfl, g, h, rfl, og, oh, z⟩
    obtain ⟨w0, w1, w2, w3⟩ := whole_ok og oh
    have hnev := never_all og oh
    generalize hw : wholeI g h = w at *
    refine st_seq (st_two (x := .int 12) (y := .int w) (ρ1 := ⟨[.d (gameD k g), .d (gameD k h), .no, .no, .no], []⟩) ?_ ?_)
    · rw [← hw]
      refine ev_call0 (xs := [gameD k g, gameD k h]) ?_ (cl_bounds og oh)
      array_get_dec
    dsimp only
    have cut : (12 + w + 1 - 1).toNat = (12 + w).toNat := by congr 1; omega
    have lst : (rangeD 1 (12 + w + 1 - 1).toNat).map (fun d => match d with | .int n => D.bl (slowerB g h n) | _ => .non) = ((List.range (12 + w).toNat).map fun i : Nat => slowerB g h (1 + i)).map D.bl := by
      unfold rangeD
      rw [List.map_map, List.map_map, cut]
      rfl
    have anyE : ((List.range (12 + w).toNat).map fun i : Nat => slowerB g h (1 + i)).any id = false → ∀ m, 1 ≤ m → m < 12 + w + 1 → slowerB g h m = false := by
      intro e m h1 h2
      rw [List.any_eq_false] at e
      have := e (slowerB g h m) (List.mem_map.mpr ⟨(m - 1).toNat, List.mem_range.mpr (by omega), by congr 1; omega⟩)
      simpa using this
    refine st_seq (st_if0 (b := ((List.range (12 + w).toNat).map fun i : Nat => slowerB g h (1 + i)).any id) ?_ (fun e => ?_) (fun e => ?_))
    · refine evT_val (ev_cb (xs := [.lst (((List.range (12 + w).toNat).map fun i : Nat => slowerB g h (1 + i)).map D.bl)]) (eva_cons ?_ eva_nil) rc_any)
      rw [← lst]
      refine ev_lcM _ (it_r2 ev_c (n := 12 + w + 1) (by array_get_dec) (by omega)) (by show 4 < 5; decide) (fun o e => by cases e) (by rw [rangeD_len, sizeLine_eq]; omega) (fun d hd => ?_)
      unfold rangeD at hd
      obtain ⟨i, _, rfl⟩ := List.mem_map.mp hd
      refine ev_call (xs := [gameD k g, gameD k h, .int (1 + i)]) ?_ (cl_is_slower og oh)
      show EvA _ ⟨[.d (gameD k g), .d (gameD k h), .d (.int 12), .d (.int w), .d (.int (1 + i))], []⟩ _ _
      array_get_dec
    · refine st_ret0 ev_c (z false ⟨fun w => (by cases w), fun w => ?_⟩)
      rw [List.any_eq_true] at e
      obtain ⟨x, hx, ex⟩ := e
      obtain ⟨i, _, rfl⟩ := List.mem_map.mp hx
      rw [id, w (1 + i) (by omega)] at ex
      cases ex
    · have hs := anyE e
      have h12 := hs 12 (by decide) (by omega)
      refine st_next ?_
      dsimp only
      refine st_seq (st_if0 (b := !everB g || !everB h) ?_ (fun e => ?_) (fun e => ?_))
      · show EvT _ ⟨[.d (gameD k g), .d (gameD k h), .d (.int 12), .d (.int w), .no], []⟩ _ _
        array_get_dec
      · refine st_ret0 (x := .bl (everB g || !everB h)) ?_ (z _ ⟨fun q m h1 => ?_, fun q => ?_⟩)
        · show Ev _ ⟨[.d (gameD k g), .d (gameD k h), .d (.int 12), .d (.int w), .no], []⟩ _ _
          array_get_dec
        · by_cases small : m < 12 + w + 1
          · exact hs m h1 small
          · have eh : everB h = false := by
              cases a : everB g <;> cases b : everB h <;> rw [a, b] at e q <;> first | rfl | (exfalso; cases q; done) | (exfalso; cases e; done)
            exact slow_none (t_none oh eh (by omega)) rfl
        · cases a : everB g with
          | true => rfl
          | false =>
            cases b : everB h with
            | false => rfl
            | true =>
              obtain ⟨u, hu⟩ := t_some (n := 12) oh b
              have : slowerB g h 12 = true := by unfold slowerB; rw [t_none og a (by decide), hu]
              rw [this] at h12
              cases h12
      · have eg : everB g = true := by cases a : everB g <;> rw [a] at e <;> first | rfl | cases e
        have eh : everB h = true := by cases a : everB h <;> rw [a, eg] at e <;> first | rfl | cases e
        refine st_next ?_
        dsimp only
        refine st_ret0 (x := .bl (decide (w / periodI g ≤ w / periodI h))) ?_ (z _ ?_)
        · have g1 : Ev (dCall (g_gain_of k) (fun x ρ => RX x ρ.pa) (dCons (dVar 0) (dCons (dVar 3) dNil))) ⟨[.d (gameD k g), .d (gameD k h), .d (.int 12), .d (.int w), .no], []⟩ (optD (gainO g w)) ⟨[.d (gameD k g), .d (gameD k h), .d (.int 12), .d (.int w), .no], []⟩ := by array_get_dec
          have g2 : Ev (dCall (g_gain_of k) (fun x ρ => RX x ρ.pa) (dCons (dVar 1) (dCons (dVar 3) dNil))) ⟨[.d (gameD k g), .d (gameD k h), .d (.int 12), .d (.int w), .no], []⟩ (optD (gainO h w)) ⟨[.d (gameD k g), .d (gameD k h), .d (.int 12), .d (.int w), .no], []⟩ := by array_get_dec
          unfold gainO at g1 g2
          rw [eg, if_pos rfl] at g1
          rw [eh, if_pos rfl] at g2
          exact ev_op g1 g2 rr_le
        · rw [decide_eq_true_eq]
          exact hnev hs eg eh
end
end DL

/-! text RJ -/
set_option Elab.async false
set_option linter.all false
set_option maxRecDepth 100000
set_option maxHeartbeats 1000000
set_option exponentiation.threshold 1100000
namespace DL
open PySem PySem.Spec PyProof.Rows L2 RZ
/-- sizeOf_list_dec: one step of a reading's value; array_get_dec: all steps -/
local macro_rules | `(tactic| sizeOf_list_dec) => `(tactic| first
  | exact ev_c | exact ev_var rfl | exact eva_nil | exact evT_yes
  | apply ev_op | apply ev_un | apply ev_not | apply ev_and | apply ev_or | apply ev_chain
  | apply ev_cb | apply ev_call | apply eva_cons | apply ev_tup | apply ev_lst
  | apply evT_val | apply evT_and | apply evT_or | apply evT_not
  | (apply ev_ifI <;> array_get_dec <;> done) | (apply ev_ifS <;> array_get_dec <;> done)
  | exact rr_addI | exact rr_sub | exact rr_lt | exact rr_le | exact rr_gt | exact rr_ge | exact rr_eqI | exact rr_eqS | exact rr_neI | exact rr_neS | exact rr_is | exact rr_isnot | exact rr_eqB | exact rr_neB
  | apply rr_mul | apply rr_div | apply rr_mod | apply rr_pow | exact rr_ixL rfl | exact rr_ixT rfl | apply rr_inL | apply rr_inT | apply rr_notinL | apply rr_notinT
  | exact ru_neg | (intro _; sizeOf_list_dec)
  | exact rr_eq rfl | exact rr_ne rfl
  | exact rc_lenL | exact rc_lenT | exact rc_lenD | exact rc_int | exact rc_intB | exact rc_abs | exact rc_min | exact rc_max | exact rc_tuple | exact rc_list | exact rc_listT
  | array_mem_dec)
local macro_rules | `(tactic| array_get_dec) => `(tactic| repeat' sizeOf_list_dec)
local macro_rules | `(tactic| array_mem_dec) => `(tactic| first | exact cl_is_ever | exact cl_period_of ‹_› | exact cl_turns_of ‹_›)
def turnD (g : Gm) (d : D) : D := match d with
  | .int n => optD (turnsO g n)
  | _ => .non
theorem turns_map (g : Gm) (n : Nat) : (rangeD 1 n).map (turnD g) = turnsL g n := by
  unfold rangeD turnsL
  rw [List.map_map]
  rfl
theorem turnsL_len (g : Gm) (n : Nat) : (turnsL g n).length = n := by simp [turnsL]
theorem turnsL_get {g : Gm} {n i : Nat} (h : i < n) : (turnsL g n)[i]? = some (optD (turnsO g (1 + i))) := by simp [turnsL, h]
theorem turnsL_take {g : Gm} {n m : Nat} (h : m ≤ n) : (turnsL g n).take m = turnsL g m := by
  unfold turnsL
  rw [← List.map_take, List.take_range, Nat.min_eq_left h]
theorem lc_turns {k : Kx} {RX : RXd} {g : Gm} (o : g.Ok) {ρ : En} {tb : TEd} {n : Int} (hg : ρ.sl[0]? = some (.d (gameD k g))) (h5 : 5 < ρ.sl.length) (hc : ∀ o, ρ.sl[5]? ≠ some (.own o)) (hb : Ev tb ρ (.int n) ρ) (n1 : 1 ≤ n) (n2 : n ≤ 1000) :
    Ev (dLc (iR2 (dC (.int 1)) tb) (gN 5) dYes (dCall (g_turns_of k) RX (dCons (dVar 0) (dCons (dVar 5) dNil))) [5]) ρ (.lst (turnsL g (n - 1).toNat)) ρ := by
  rw [← turns_map]
  refine ev_lcM _ (it_r2 ev_c hb (by omega)) h5 hc (by rw [rangeD_len, sizeLine_eq]; omega) (fun d hd => ?_)
  unfold rangeD at hd
  obtain ⟨i, _, rfl⟩ := List.mem_map.mp hd
  refine ev_call (xs := [gameD k g, .int (1 + i)]) (eva_cons (ev_var ?_) (eva_cons (ev_var ?_) eva_nil)) (cl_turns_of o)
  · show ((ρ.sl.set 5 .no).set 5 _)[0]? = _
    rw [List.getElem?_set_ne (by decide), List.getElem?_set_ne (by decide)]
    exact hg
  · show ((ρ.sl.set 5 .no).set 5 _)[5]? = _
    rw [List.getElem?_set_self (by rw [List.length_set]; exact h5)]
theorem r_form (k : Kx) : Rok 1 5 (g_form k) (t_form k) where
  len := by
    rintro qs π R RX ⟨ds, rfl, rfl, g, rfl, _⟩
    rfl
  run := by
    rintro qs π R RX ⟨ds, rfl, rfl, g, rfl, o, z⟩
    refine st_seq (st_if0 (b := !everB g) ?_ (fun e => ?_) (fun e => ?_))
    · show EvT _ ⟨[.d (gameD k g), .no, .no, .no, .no, .no], []⟩ _ _
      array_get_dec
    · have e' : everB g = false := by cases q : everB g <;> rw [q] at e <;> first | rfl | cases e
      refine st_seq (st_set0 ev_c ?_)
      dsimp only
      refine st_seq (st_while (fun m ρ => ∃ f : Int, ρ = ⟨[.d (gameD k g), .d (.int f), .no, .no, .no, .no], []⟩ ∧ 2 ≤ f ∧ f ≤ 12 ∧ (∀ m, 2 ≤ m → m < f → turnsO g m ≠ none) ∧ (m : Int) = 12 - f) 10 ⟨2, rfl, by decide, by decide, fun m h1 h2 => by omega, by decide⟩ ?_)
      rintro m ρ ⟨f, rfl, f2, f12, fs, em⟩
      refine ⟨!(turnsO g f).isNone, ?_, fun w => ?_, fun w => ?_⟩
      · rw [← isNon_opt]
        array_get_dec
      · have hn : turnsO g f ≠ none := fun q => by rw [q] at w; cases w
        have lt : f < 12 := by
          cases Int.lt_or_le f 12 with
          | inl h => exact h
          | inr h => exact absurd (t_none o e' (n := f) h) hn
        refine st_aug (x := .int f) (y := .int 1) (z := .int (f + 1)) rfl ev_c (fun Q q => q) ?_
        refine ⟨(m - 1), by omega, f + 1, rfl, by omega, by omega, fun m h1 h2 => ?_, by omega⟩
        by_cases q : m = f
        · rw [q]; exact hn
        · exact fs m h1 (by omega)
      · have hn : turnsO g f = none := by cases q : turnsO g f with
          | none => rfl
          | some t => rw [q] at w; cases w
        dsimp only
        refine st_ret0 ?_ (z _ (.never f e' f2 hn fs))
        refine ev_tup (eva_cons ev_c (eva_cons (ev_var rfl) (eva_cons (ev_cb (eva_cons ?_ eva_nil) rc_tuple) eva_nil))) (by rw [sizeLine_eq]; show 3 ≤ 16777216; decide)
        exact lc_turns o rfl (by show 5 < 6; decide) (fun o e => by cases e) (ev_var rfl) (by omega) (by omega)
    · have e' : everB g = true := by cases q : everB g <;> rw [q] at e <;> first | rfl | cases e
      have p := period_ok o e'
      refine st_next ?_
      dsimp only
      refine st_seq (st_set0 (x := .int (periodI g)) ?_ ?_)
      · show Ev _ ⟨[.d (gameD k g), .no, .no, .no, .no, .no], []⟩ _ _
        array_get_dec
      dsimp only
      refine st_seq (st_set0 (x := .lst (turnsL g (12 + 2 * periodI g).toNat)) ?_ ?_)
      · have e3 : (12 + 2 * periodI g).toNat = (12 + 2 * periodI g + 1 - 1).toNat := by congr 1; omega
        rw [e3]
        refine lc_turns o rfl (by show 5 < 6; decide) (fun o e => by cases e) ?_ (by omega) (by omega)
        show Ev _ ⟨[.d (gameD k g), .no, .d (.int (periodI g)), .no, .no, .no], []⟩ _ _
        array_get_dec
        exact mulS' (by decide)
      dsimp only
      refine st_seq (st_set0 ev_c ?_)
      dsimp only
      refine st_seq (st_while (fun m ρ => ∃ s : Int, ρ = ⟨[.d (gameD k g), .no, .d (.int (periodI g)), .d (.lst (turnsL g (12 + 2 * periodI g).toNat)), .d (.int s), .no], []⟩ ∧ 0 ≤ s ∧ s ≤ 12 ∧ (∀ j t, s < j → j ≤ 12 → turnsO g j = some t → turnsO g (j + periodI g) = some (t + 1)) ∧ (m : Int) = s) 12 ⟨12, rfl, by decide, by decide, fun j t h1 h2 => by omega, rfl⟩ ?_)
      rintro m ρ ⟨s, rfl, s0, s12, hs, em⟩
      obtain ⟨t, ht⟩ := t_some (n := s) o e'
      obtain ⟨u, hu⟩ := t_some (n := s + periodI g) o e'
      refine ⟨decide (0 < s) && decide (u = t + 1), ?_, fun w => ?_, fun w => ?_⟩
      · refine evT_and (evT_val (ev_op (ev_var rfl) ev_c rr_gt)) (fun w => ?_)
        have sp := of_decide_eq_true w
        refine evT_val (ev_op (x := .int u) (y := .int (t + 1)) (ρ1 := _) (ev_op (x := .lst (turnsL g (12 + 2 * periodI g).toNat)) (y := .int (s - 1 + periodI g)) (ev_var rfl) (ev_op (ev_op (ev_var rfl) ev_c rr_sub) (ev_var rfl) rr_addI) (rr_ixL (at_in (by omega) ?_)))
          (ev_op (x := .int t) (y := .int 1) (ev_op (x := .lst (turnsL g (12 + 2 * periodI g).toNat)) (y := .int (s - 1)) (ev_var rfl) (ev_op (ev_var rfl) ev_c rr_sub) (rr_ixL (at_in (by omega) ?_))) ev_c rr_addI) rr_eqI)
        · rw [turnsL_get (by omega)]
          have : (1 : Int) + ((s - 1 + periodI g).toNat : Nat) = s + periodI g := by omega
          rw [this, hu]
          rfl
        · rw [turnsL_get (by omega)]
          have : (1 : Int) + ((s - 1).toNat : Nat) = s := by omega
          rw [this, ht]
          rfl
      · simp only [Bool.and_eq_true, decide_eq_true_eq] at w
        refine st_aug (x := .int s) (y := .int 1) (z := .int (s - 1)) rfl ev_c (fun Q q => q) ?_
        refine ⟨m - 1, by omega, s - 1, rfl, by omega, by omega, fun j v h1 h2 h3 => ?_, by omega⟩
        by_cases q : j = s
        · subst q
          rw [ht] at h3
          cases h3
          rw [hu, w.2]
        · exact hs j v (by omega) h2 h3
      · dsimp only
        refine st_ret0 ?_ (z _ (.turns s e' s0 s12 hs ?_))
        · have e4 : turnsL g (s + periodI g).toNat = (turnsL g (12 + 2 * periodI g).toNat).take (s + periodI g).toNat := (turnsL_take (by omega)).symm
          rw [e4]
          refine ev_tup (eva_cons ev_c (eva_cons (ev_op (ev_var rfl) ev_c rr_addI) (eva_cons (ev_var rfl) (eva_cons ev_c (eva_cons (ev_cb (eva_cons ?_ eva_nil) rc_tuple) eva_nil))))) (by rw [sizeLine_eq]; show 5 ≤ 16777216; decide)
          intro Q q
          exact ⟨by omega, q⟩
        · by_cases q : s = 0
          · exact .inl q
          · refine .inr fun v hv => ?_
            rw [ht] at hv
            cases hv
            rw [hu]
            intro w2
            cases w2
            simp at w
            omega
end DL

/-! text RK -/
set_option Elab.async false
set_option linter.all false
set_option maxRecDepth 100000
set_option maxHeartbeats 1000000
set_option exponentiation.threshold 1100000
namespace DL
open PySem PySem.Spec PyProof.Rows L2 RZ
/-! ### what makes the turns fewer -/
theorem up_le {a b t : Int} (h : 0 < b) : upI a b ≤ t ↔ a ≤ t * b := by
  unfold upI
  have e : -t ≤ (-a) / b ↔ (-t) * b ≤ -a := Int.le_ediv_iff_mul_le h
  rw [Int.neg_mul] at e
  constructor
  · intro q
    have := e.mp (by omega)
    omega
  · intro q
    have := e.mpr (by omega)
    omega
theorem up_self {a b : Int} (h : 0 < b) : a ≤ upI a b * b := (up_le h).mp (Int.le_refl _)
theorem up_nn {a b : Int} (h : 0 < b) (ha : 0 ≤ a) : 0 ≤ upI a b := by
  cases Int.lt_or_le (upI a b) 0 with
  | inr q => exact q
  | inl q =>
    have := up_self (a := a) h
    have := Int.mul_neg_of_neg_of_pos q h
    omega
theorem up_pos {a b : Int} (h : 0 < b) (ha : 0 < a) : 1 ≤ upI a b := by
  cases Int.lt_or_le (upI a b) 1 with
  | inr q => exact q
  | inl q =>
    have := up_self (a := a) h
    have := Int.mul_nonpos_of_nonpos_of_nonneg (show upI a b ≤ 0 by omega) (show 0 ≤ b by omega)
    omega
theorem up_mono {a b a' b' : Int} (h : 0 < b') (h2 : b' ≤ b) (ha : 0 ≤ a) (ha2 : a ≤ a') : upI a b ≤ upI a' b' := by
  rw [up_le (by omega)]
  have h1 := up_self (a := a') h
  have h3 := up_nn (a := a') h (by omega)
  have := Int.mul_le_mul_of_nonneg_left h2 h3
  omega
theorem up_more {a b a' d : Int} (h : 0 < b) (d0 : 0 ≤ d) (ha : b ≤ a) (ha2 : a' ≤ a + d) : upI a' (b + d) ≤ upI a b := by
  rw [up_le (by omega), Int.mul_add]
  have h1 := up_self (a := a) h
  have h3 := up_pos (a := a) h (by omega)
  have := Int.mul_le_mul_of_nonneg_right h3 d0
  omega
/-- no more turns -/
def noMore (a b : Option Int) : Prop := ∀ t, b = some t → ∃ t', a = some t' ∧ t' ≤ t
theorem slow_iff {u g : Gm} {n : Int} : noMore (turnsO u n) (turnsO g n) → slowerB u g n = false := by
  intro h
  unfold slowerB
  cases eg : turnsO g n with
  | none => cases turnsO u n <;> rfl
  | some t =>
    obtain ⟨t', e, le⟩ := h t eg
    rw [e]
    exact decide_eq_false (by omega)
theorem more_iff {a b : Option Int} : noMore a b → moreB a b = false := by
  intro h
  unfold moreB
  cases b with
  | none => cases a <;> rfl
  | some t =>
    obtain ⟨t', e, le⟩ := h t rfl
    rw [e]
    exact decide_eq_false (by omega)
def Gm.one (g : Gm) : Prop := g.ring = true ∧ g.many = 1
def awayI (al : Bool) (n : Int) : Int := if al = true then n / 2 else n - 1
def areaI (g : Gm) : Int := sidesI g.al * g.many * g.far
theorem t_lin {g : Gm} (h : ¬ g.one) (n : Int) : turnsO g n = some (upI (max 0 (n - g.many)) (areaI g)) := if_neg h
theorem t_one {g : Gm} (h : g.one) (n : Int) : turnsO g n = if n = 1 then some 0 else roundT g.far g.quick (awayI g.al n) := if_pos h
theorem area_ok {g : Gm} (h : g.Ok) : 0 < areaI g ∧ areaI g ≤ 60 := prod_ok h
theorem lin_better {u g : Gm} {n n' : Int} (hu : ¬ u.one) (hg : ¬ g.one) (og : g.Ok) (hm : g.many ≤ u.many) (ha : areaI g ≤ areaI u) (hn : n ≤ n') : noMore (turnsO u n) (turnsO g n') := by
  intro t ht
  rw [t_lin hg] at ht
  cases ht
  exact ⟨_, t_lin hu n, up_mono (area_ok og).1 ha (by omega) (by omega)⟩
theorem round_better {f q f' q' a a' : Int} (hf : f ≤ f') (hq : q' ≤ q) (q0 : 0 ≤ q') (f1 : 1 ≤ f) (ha : a' ≤ a) : noMore (roundT f' q' a') (roundT f q a) := by
  intro t ht
  unfold roundT at ht ⊢
  by_cases h1 : a ≤ f
  · rw [if_pos h1] at ht
    cases ht
    exact ⟨1, if_pos (by omega), Int.le_refl _⟩
  · rw [if_neg h1] at ht
    by_cases h2 : q < f
    · rw [if_pos h2] at ht
      cases ht
      by_cases h3 : a' ≤ f'
      · exact ⟨1, if_pos h3, up_pos (by omega) (by omega)⟩
      · rw [if_neg h3, if_pos (by omega)]
        refine ⟨_, rfl, ?_⟩
        have e : f' - q' = (f - q) + ((f' - f) + (q - q')) := by omega
        rw [e]
        exact up_more (by omega) (by omega) (by omega) (by omega)
    · rw [if_neg h2] at ht
      cases ht
theorem one_better {u g : Gm} {n n' : Int} (hu : u.one) (hg : g.one) (og : g.Ok) (ou : u.Ok) (hf : g.far ≤ u.far) (hq : u.quick ≤ g.quick) (n1 : 1 ≤ n) (hn : n ≤ n') (ha : n ≠ 1 → awayI u.al n ≤ awayI g.al n') : noMore (turnsO u n) (turnsO g n') := by
  rw [t_one hu, t_one hg]
  by_cases e : n = 1
  · rw [if_pos e]
    intro t ht
    refine ⟨0, rfl, ?_⟩
    split at ht
    · cases ht; exact Int.le_refl _
    · unfold roundT at ht
      split at ht
      · cases ht; decide
      · split at ht
        · cases ht
          rename_i h1 h2
          exact Int.le_trans (by decide) (up_pos (by omega) (by omega))
        · cases ht
  · rw [if_neg e, if_neg (by omega)]
    exact round_better hf hq ou.q0 og.f1 (ha e)
theorem one_lin {u g : Gm} {n : Int} (hu : ¬ u.one) (hg : g.one) (og : g.Ok) (hm : u.many = 2) (hf : u.far = g.far) (ha : u.al = g.al) (n1 : 1 ≤ n) : noMore (turnsO u n) (turnsO g n) := by
  intro t ht
  rw [t_one hg] at ht
  refine ⟨_, t_lin hu n, ?_⟩
  have f1 := og.f1
  have q0 := og.q0
  have ar : areaI u = if g.al = true then 4 * g.far else 2 * g.far := by
    unfold areaI sidesI
    rw [hm, hf, ha]
    split <;> omega
  have ap : 0 < areaI u := by rw [ar]; split <;> omega
  rw [up_le ap, hm]
  by_cases e : n = 1
  · rw [if_pos e] at ht
    cases ht
    omega
  rw [if_neg e] at ht
  unfold roundT at ht
  have aw : awayI g.al n = if g.al = true then n / 2 else n - 1 := rfl
  by_cases h1 : awayI g.al n ≤ g.far
  · rw [if_pos h1] at ht
    cases ht
    rw [ar]
    rw [aw] at h1
    split at h1 <;> simp only [*] <;> simp <;> omega
  · rw [if_neg h1] at ht
    by_cases h2 : g.quick < g.far
    · rw [if_pos h2] at ht
      cases ht
      have h3 := up_more (b := g.far - g.quick) (a := awayI g.al n - g.quick) (d := g.quick) (a' := awayI g.al n) (by omega) q0 (by omega) (by omega)
      have e4 : g.far - g.quick + g.quick = g.far := by omega
      rw [e4] at h3
      have h4 := up_self (a := awayI g.al n) (b := g.far) (by omega)
      have h5 := up_pos (a := awayI g.al n) (b := g.far) (by omega) (by omega)
      generalize upI (awayI g.al n - g.quick) (g.far - g.quick) = t at h3 ⊢
      generalize upI (awayI g.al n) g.far = v at h3 h4 h5
      have h6 := Int.mul_le_mul_of_nonneg_right h3 (show 0 ≤ g.far by omega)
      rw [ar]
      rw [aw] at h4
      cases hal : g.al with
      | true =>
        rw [hal] at h4
        simp only [if_true] at h4 ⊢
        have e7 : t * (4 * g.far) = 4 * (t * g.far) := by rw [Int.mul_left_comm]
        rw [e7]
        omega
      | false =>
        rw [hal] at h4
        simp only [Bool.false_eq_true, if_false] at h4 ⊢
        have e7 : t * (2 * g.far) = 2 * (t * g.far) := by rw [Int.mul_left_comm]
        rw [e7]
        omega
    · rw [if_neg h2] at ht
      cases ht
end DL

/-! text GL -/
set_option Elab.async false
set_option linter.all false
set_option maxRecDepth 100000
set_option maxHeartbeats 1000000
namespace DL
open PySem PySem.Spec PyProof.Rows L2 RZ
/-- a game of any number of catchers -/
structure Gm.Wk (g : Gm) : Prop where
  m1 : 1 ≤ g.many
  m2 : g.many < 2 ^ 2000
  f1 : 1 ≤ g.far
  f5 : g.far ≤ 5
  q0 : 0 ≤ g.quick
def g_law_quick_turns (k : Kx) : Gd := pureG fun ds Q X => ∃ g n, ds = [.dic (lawGD g), .int n] ∧ g.Wk ∧ 1 ≤ n ∧ Q (optD (turnsO g n))
end DL

/-! text TL -/
set_option Elab.async false
set_option linter.all false
set_option maxRecDepth 100000
set_option maxHeartbeats 4000000
namespace DL
open PySem PySem.Spec PyProof.Rows L2 RZ
/-- _law_quick_turns: 0 _law_g 1 _law_n 2 _law_away 3 _law_gain 4 _law_each -/
def t_law_quick_turns (k : Kx) (RX : RXd) : TSd :=
  (dSeq (dIfS ((dAnd (dT (dOp oEq (dGet (dVar 0) (dC (.str "shape"))) (dC (.str "ring")))) (dT (dOp oEq (dGet (dVar 0) (dC (.str "many"))) (dC (.int 1)))))) (dSeq (dSet 2 (dIf (dT (dOp oEq (dGet (dVar 0) (dC (.str "seen"))) (dC (.str "always")))) (dOp oDiv (dVar 1) (dC (.int 2))) (dOp oSub (dVar 1) (dC (.int 1))))) (dSeq (dIfS (dT (dOp oLe (dVar 2) (dGet (dVar 0) (dC (.str "far"))))) (dRet (dCB rInt (dCons (dOp oGt (dVar 1) (dC (.int 1))) dNil))) dNext) (dSeq (dIfS (dT (dOp oLe (dGet (dVar 0) (dC (.str "far"))) (dGet (dVar 0) (dC (.str "quick"))))) (dRet (dC .non)) dNext) (dSeq (dSet 3 (dOp oSub (dGet (dVar 0) (dC (.str "far"))) (dGet (dVar 0) (dC (.str "quick"))))) (dRet (dOp oAdd (dC (.int 1)) (dOp oDiv (dOp oSub (dOp oAdd (dOp oSub (dVar 2) (dGet (dVar 0) (dC (.str "far")))) (dVar 3)) (dC (.int 1))) (dVar 3)))))))) dNext) (dSeq (dSet 4 (dOp oMul (dOp oMul (dGet (dVar 0) (dC (.str "far"))) (dIf (dT (dOp oEq (dGet (dVar 0) (dC (.str "seen"))) (dC (.str "always")))) (dC (.int 2)) (dC (.int 1)))) (dGet (dVar 0) (dC (.str "many"))))) (dRet (dOp oDiv (dOp oSub (dOp oAdd (dCB rMax2 (dCons (dOp oSub (dVar 1) (dGet (dVar 0) (dC (.str "many")))) (dCons (dC (.int 0)) dNil))) (dVar 4)) (dC (.int 1))) (dVar 4)))))
end DL

/-! text RL -/
set_option Elab.async false
set_option linter.all false
set_option maxRecDepth 100000
set_option maxHeartbeats 1000000
set_option exponentiation.threshold 1100000
namespace DL
open PySem PySem.Spec PyProof.Rows L2 RZ
/-- sizeOf_list_dec: one step of a reading's value; array_get_dec: all steps -/
local macro_rules | `(tactic| sizeOf_list_dec) => `(tactic| first
  | exact ev_c | exact ev_var rfl | exact eva_nil | exact evT_yes
  | apply ev_op | apply ev_un | apply ev_not | apply ev_and | apply ev_or | apply ev_chain
  | apply ev_cb | apply ev_call | apply eva_cons | apply ev_tup | apply ev_lst
  | apply evT_val | apply evT_and | apply evT_or | apply evT_not
  | (apply ev_ifI <;> array_get_dec <;> done) | (apply ev_ifS <;> array_get_dec <;> done)
  | exact rr_addI | exact rr_sub | exact rr_lt | exact rr_le | exact rr_gt | exact rr_ge | exact rr_eqI | exact rr_eqS | exact rr_neI | exact rr_neS | exact rr_is | exact rr_isnot | exact rr_eqB | exact rr_neB
  | apply rr_mul | apply rr_div | apply rr_mod | apply rr_pow | exact rr_ixL rfl | exact rr_ixT rfl | apply rr_inL | apply rr_inT | apply rr_notinL | apply rr_notinT
  | exact ru_neg | (intro _; sizeOf_list_dec)
  | exact rr_eq rfl | exact rr_ne rfl
  | exact rc_lenL | exact rc_lenT | exact rc_lenD | exact rc_int | exact rc_intB | exact rc_abs | exact rc_min | exact rc_max | exact rc_tuple | exact rc_list | exact rc_listT
  | array_mem_dec)
local macro_rules | `(tactic| array_get_dec) => `(tactic| repeat' sizeOf_list_dec)
local macro_rules | `(tactic| array_mem_dec) => `(tactic| first | exact ev_gs (ev_var rfl) | exact ev_gm (ev_var rfl) | exact ev_gf (ev_var rfl) | exact ev_gq (ev_var rfl) | exact ev_gt (ev_var rfl))
theorem up_div {a b : Int} (h : 0 < b) : upI a b = (a + b - 1) / b := by
  have h1 : (a + b - 1) / b ≤ upI a b := by
    have s := up_self (a := a) h
    have : (a + b - 1) / b < upI a b + 1 := by
      rw [Int.ediv_lt_iff_lt_mul h, Int.add_mul]
      omega
    omega
  have h2 : upI a b ≤ (a + b - 1) / b := by
    rw [up_le h]
    have := Int.emod_add_mul_ediv (a + b - 1) b
    have := Int.emod_lt_of_pos (a + b - 1) h
    rw [Int.mul_comm]
    omega
  omega
theorem two2000 : (6 : Int) < 2 ^ 2000 := Int.lt_of_lt_of_le (b := 2 ^ 3) (by decide) (by decide)
theorem Gm.Ok.wk {g : Gm} (o : g.Ok) : g.Wk := ⟨o.m1, Int.lt_of_le_of_lt o.m6 two2000, o.f1, o.f5, o.q0⟩
theorem area_wk {g : Gm} (o : g.Wk) : 0 < areaI g ∧ areaI g < 2 ^ 3000 := by
  have e7 : areaI g = (g.far * sidesI g.al) * g.many := by
    unfold areaI
    rw [Int.mul_comm g.far, Int.mul_assoc, Int.mul_assoc, Int.mul_comm g.many]
  obtain ⟨m1, m2, f1, f5, q0⟩ := o
  have c : 1 ≤ g.far * sidesI g.al ∧ g.far * sidesI g.al ≤ 10 := by
    unfold sidesI
    split <;> omega
  rw [e7]
  generalize g.far * sidesI g.al = d at *
  have p1 : 0 < d * g.many := Int.mul_pos (by omega) (by omega)
  have p2 : d * g.many ≤ 10 * g.many := Int.mul_le_mul_of_nonneg_right c.2 (by omega)
  have p3 : (10 : Int) * 2 ^ 2000 ≤ 2 ^ 3000 := by decide
  omega
theorem r_law_quick_turns (k : Kx) : Rok 2 3 (g_law_quick_turns k) (t_law_quick_turns k) where
  len := by
    rintro qs π R RX ⟨ds, rfl, rfl, g, n, rfl, _⟩
    rfl
  run := by
    rintro qs π R RX ⟨ds, rfl, rfl, g, n, rfl, o, n1, z⟩
    have f1 := o.f1
    have f5 := o.f5
    have q0 := o.q0
    have m1 := o.m1
    refine st_seq (st_if0 (b := g.ring && decide (g.many = 1)) ?_ (fun e => ?_) (fun e => ?_))
    · refine evT_eq0 (b := decide (shapeS g.ring = "ring") && decide (g.many = 1)) ?_ (by rw [sh_ring])
      array_get_dec
    · have w : g.one := (ring_one g).mp e
      rw [t_one w] at z
      refine st_seq (st_set0 (x := .int (awayI g.al n)) ?_ ?_)
      · exact ev_ifI0 (evT_eq0 (evT_val (ev_op (ev_gt (ev_var rfl)) ev_c rr_eqS)) (al_always g.al)) (fun _ => ev_op (ev_var rfl) ev_c (rr_div (divS (by decide) (by decide)))) (fun _ => ev_op (ev_var rfl) ev_c rr_sub)
      dsimp only
      have a0 : n = 1 → awayI g.al n = 0 := fun h => by subst h; unfold awayI; split <;> rfl
      generalize ha : awayI g.al n = a at z a0 ⊢
      show dSeq _ _ _ ⟨[.d (.dic (lawGD g)), .d (.int n), .d (.int a), .no, .no], []⟩
      unfold roundT at z
      refine st_seq (st_if0 (b := decide (a ≤ g.far)) (evT_val (ev_op (ev_var rfl) (ev_gf (ev_var rfl)) rr_le)) (fun e2 => ?_) (fun e2 => ?_))
      · refine st_ret0 (x := optD (if n = 1 then some 0 else if a ≤ g.far then some 1 else if g.quick < g.far then some (upI (a - g.quick) (g.far - g.quick)) else none)) ?_ z
        rw [if_pos (of_decide_eq_true e2)]
        refine ev_eq0 (x := .int (if decide (1 < n) then 1 else 0)) (ev_cb (eva_cons (ev_op (ev_var rfl) ev_c rr_gt) eva_nil) rc_intB) ?_
        by_cases q : n = 1
        · subst q; rfl
        · rw [if_neg q, if_pos (decide_eq_true (by omega))]; rfl
      have e2 := of_decide_eq_false e2
      have nn : ¬ n = 1 := fun q => by have := a0 q; omega
      rw [if_neg nn, if_neg e2] at z
      refine st_next ?_
      dsimp only
      refine st_seq (st_if0 (b := decide (g.far ≤ g.quick)) (evT_val (ev_op (ev_gf (ev_var rfl)) (ev_gq (ev_var rfl)) rr_le)) (fun e3 => ?_) (fun e3 => ?_))
      · have e3 := of_decide_eq_true e3
        rw [if_neg (by omega)] at z
        exact st_ret0 ev_c z
      have e3 := of_decide_eq_false e3
      rw [if_pos (by omega)] at z
      refine st_next ?_
      dsimp only
      refine st_seq (st_set0 (x := .int (g.far - g.quick)) (ev_op (ev_gf (ev_var rfl)) (ev_gq (ev_var rfl)) rr_sub) ?_)
      dsimp only
      show dRet _ _ ⟨[.d (.dic (lawGD g)), .d (.int n), .d (.int a), .d (.int (g.far - g.quick)), .no], []⟩
      have key : upI (a - g.quick) (g.far - g.quick) = 1 + (a - g.far + (g.far - g.quick) - 1) / (g.far - g.quick) := by
        have e6 : a - g.quick = (a - g.far) + (g.far - g.quick) := by omega
        rw [e6, up_add (by omega), up_div (by omega)]
        omega
      rw [key] at z
      exact st_ret0 (ev_op ev_c (ev_op (ev_op (ev_op (ev_op (ev_var rfl) (ev_gf (ev_var rfl)) rr_sub) (ev_var rfl) rr_addI) ev_c rr_sub) (ev_var rfl) (rr_div (divS (by omega) (by omega)))) rr_addI) z
    · have w : ¬ g.one := fun w => by rw [(ring_one g).mpr w] at e; cases e
      rw [t_lin w] at z
      have ao := area_wk o
      have e7 : areaI g = g.far * (if g.al = true then 2 else 1) * g.many := by
        unfold areaI sidesI
        rw [Int.mul_comm g.far, Int.mul_assoc, Int.mul_assoc, Int.mul_comm g.many]
      rw [up_div ao.1] at z
      generalize hA : areaI g = A at *
      refine st_next ?_
      dsimp only
      refine st_seq (st_set0 (x := .int A) ?_ ?_)
      · rw [e7]
        have cb : -(2 ^ 64) < (g.far * (if g.al = true then 2 else 1) : Int) ∧ (g.far * (if g.al = true then 2 else 1) : Int) < 2 ^ 64 := by split <;> omega
        have sd : -(2 ^ 64) < (if g.al = true then 2 else 1 : Int) ∧ (if g.al = true then 2 else 1 : Int) < 2 ^ 64 := by split <;> decide
        exact ev_op (ev_op (ev_gf (ev_var rfl)) (ev_ifI0 (evT_eq0 (evT_val (ev_op (ev_gt (ev_var rfl)) ev_c rr_eqS)) (al_always g.al)) (fun _ => ev_c) (fun _ => ev_c)) (rr_mul (mulS sd))) (ev_gm (ev_var rfl)) (rr_mul (mulS' cb))
      dsimp only
      rw [Int.max_comm] at z
      exact st_ret0 (ev_op (ev_op (ev_op (ev_cb (eva_cons (ev_op (ev_var rfl) (ev_gm (ev_var rfl)) rr_sub) (eva_cons ev_c eva_nil)) rc_max) (ev_var rfl) rr_addI) ev_c rr_sub) (ev_var rfl) (rr_div (divW ao.1 ao.2))) z
theorem cl_law_quick_turns {k : Kx} {g : Gm} {n : Int} (o : g.Ok) (h : 1 ≤ n) : Cl (g_law_quick_turns k) [.dic (lawGD g), .int n] (optD (turnsO g n)) := fun R X z => ⟨_, rfl, rfl, g, n, rfl, o.wk, h, z⟩
theorem cl_quick_wk {k : Kx} {g : Gm} {n : Int} (o : g.Wk) (h : 1 ≤ n) : Cl (g_law_quick_turns k) [.dic (lawGD g), .int n] (optD (turnsO g n)) := fun R X z => ⟨_, rfl, rfl, g, n, rfl, o, h, z⟩
end DL

/-! text RM -/
set_option Elab.async false
set_option linter.all false
set_option maxRecDepth 100000
set_option maxHeartbeats 1000000
set_option exponentiation.threshold 1100000
namespace DL
open PySem PySem.Spec PyProof.Rows L2 RZ
theorem drawn_use {k : Kx} {j : Nat} {t : TAd} {ρ : En} {Q : D → En → Prop} (m f : Int) (h0 : ρ.thing j = some .row) (ha : EvA t ρ [.int m, .int f] ρ) (m1 : 1 ≤ m) (m6 : m ≤ 6) (f1 : 1 ≤ f) (f5 : f ≤ 5) (q : ∀ g : Gm, g.Ok → g.many ≤ m → g.far ≤ f → Q (.dic (lawGD g)) ρ) : dCall1 j (g_law_drawn k) t ρ Q := by
  refine ⟨⟨_, h0⟩, ha _ ⟨.row, h0, m, f, rfl, rfl, m1, m6, f1, f5, fun g o h1 h2 => ⟨.row, rfl, rfl, ?_⟩⟩⟩
  rw [chg_same h0]
  exact q g o h1 h2
theorem cl_turns {k : Kx} {g : Gm} {n : Int} (o : g.Ok) (h1 : 1 ≤ n) (h2 : n ≤ greatI) : Cl (g_turns k) [gameD k g, .int n] (optD (turnsO g n)) := fun R X z => ⟨_, rfl, rfl, g, .int n, rfl, o, okV_int n, by dsimp only; rw [if_pos ⟨h1, h2⟩]; exact z⟩
theorem st_forC {ρ ρ1 : En} {ti : TId} {tb : TSd} {j : Nat} {Dd : EndsD} (xs : List D) (hi : ∀ Qi : List D → En → Prop, Qi xs ρ1 → ti ρ Qi) (Pv : Nat → En → Prop) (h0 : Pv 0 ρ1) (h : ∀ i d ρ, xs[i]? = some d → Pv i ρ → tb { Dd with nx := Pv (i + 1), ct := Pv (i + 1), bk := Dd.nx } ⟨ρ.sl.set j (.d d), ρ.pa⟩)
    (he : ∀ ρ, Pv xs.length ρ → Dd.nx ρ) : dFor ti (gN j) tb Dd ρ := hi _ ⟨Pv, h0, h, he⟩
theorem it_lstC {ρ ρ1 : En} {ta : TEd} {xs : List D} (h : Ev ta ρ (.lst xs) ρ1) : ∀ Qi : List D → En → Prop, Qi xs ρ1 → iLst ta ρ Qi := fun Qi q => h _ q
theorem draws_use {k : Kx} {RX : RXd} {t : TAd} {ρ : En} {Q : OD → En → Prop} {ns : List Int} (hn : ∀ n ∈ ns, n.natAbs < 2 ^ 1048577) (ha : EvA t ρ [.scr ns] ρ) (q : Q .row ρ) : dCallO (g_law_draws k) RX t ρ Q :=
  ha _ ⟨ns, rfl, rfl, hn, ns, 0, 0, 7, ⟨hn, by decide, by decide, Nat.pow_pos (by decide), by decide, by decide⟩, rfl, q⟩
theorem par_draw {k : Kx} {i j jr : Nat} {t t' : TAd} {ρ : En} {D' : EndsD} (m f p : Int) (h0 : ρ.thing jr = some .row) (ha : EvA t ρ [.int m, .int f] ρ) (ha' : EvA t' ρ [.int p] ρ) (m1 : 1 ≤ m) (m6 : m ≤ 6) (f1 : 1 ≤ f) (f5 : f ≤ 5) (p0 : 0 < p) (p1 : p < 2 ^ 64)
    (q : ∀ (g : Gm) (r : Int), g.Ok → 0 ≤ r → r < p → D'.nx ⟨(ρ.sl.set i (.d (.dic (lawGD g)))).set j (.d (.int (1 + r))), ρ.pa⟩) : dPar i j (rD (dCall1 jr (g_law_drawn k) t)) (rD (dOp oAdd (dC (.int 1)) (dCall1 jr (g_law_pick k) t'))) D' ρ :=
  drawn_use m f h0 ha m1 m6 f1 f5 fun g o _ _ => pick_use p h0 ha' p0 (sm3000 p1) fun r h1 h2 => q g r o h1 h2
theorem st_putE {ρ ρ1 : En} {te ti : TEd} {x y : D} {j : Nat} {Dd : EndsD} {kvs kvs' : List (Key × D)} {k : Key} (h : Ev te ρ x ρ1) (h0 : ρ1.sl[j]? = some (.own (.dic kvs))) (hi : Ev ti ρ1 y ρ1) (hk : keyOf y = some k) (hl : kvs.length < sizeLine) (e : putD kvs k x = kvs') (q : Dd.nx ⟨ρ1.sl.set j (.own (.dic kvs')), ρ1.pa⟩) : dAsg te (gPut j ti) Dd ρ :=
  st_put h h0 hi hk hl (by rw [e]; exact q)
theorem put_use {ρ : En} {ti : TEd} {x y : D} {j : Nat} {Q : En → Prop} {kvs kvs' : List (Key × D)} {k : Key} (h0 : ρ.sl[j]? = some (.own (.dic kvs))) (hi : Ev ti ρ y ρ) (hk : keyOf y = some k) (hl : kvs.length < sizeLine) (e : putD kvs k x = kvs') (q : Q ⟨ρ.sl.set j (.own (.dic kvs')), ρ.pa⟩) : gPut j ti x ρ Q := by
  unfold gPut
  rw [h0]
  refine hi _ ?_
  rw [h0]
  exact ⟨k, hk, hl, by rw [e]; exact q⟩
theorem gd_line (g : Gm) : (lawGD g).length < sizeLine := by rw [sizeLine_eq]; show 5 < 16777216; decide
section
variable {k : Kx} {RX : RXd} {g : Gm} {ρ : En} {te ta tb : TEd} {n : Int}
theorem ev_made (h : Ev te ρ (.dic (lawGD g)) ρ) (o : g.Ok) : Ev (dCall (g_law_made k) RX (dCons te dNil)) ρ (gameD k g) ρ := ev_call (eva_cons h eva_nil) (cl_law_made o)
theorem ev_madeC {ρ1 : En} (h : Ev te ρ (.dic (lawGD g)) ρ1) (o : g.Ok) : Ev (dCall (g_law_made k) RX (dCons te dNil)) ρ (gameD k g) ρ1 := ev_call (eva_cons h eva_nil) (cl_law_made o)
theorem ev_turns (ha : Ev ta ρ (gameD k g) ρ) (hb : Ev tb ρ (.int n) ρ) (o : g.Ok) (h1 : 1 ≤ n) (h2 : n ≤ greatI) : Ev (dCall (g_turns k) RX (dCons ta (dCons tb dNil))) ρ (optD (turnsO g n)) ρ := ev_call (eva_cons ha (eva_cons hb eva_nil)) (cl_turns o h1 h2)
end
theorem part_one {g h : Gm} : ∀ {r s : Option Int}, IsPart g h r → IsPart g h s → r = s
  | none, none, _, _ => rfl
  | none, some m, a, b => absurd (a m b.1) b.2.1
  | some n, none, a, b => absurd (b n a.1) a.2.1
  | some n, some m, a, b => by
    have h1 : ¬ n < m := fun w => a.2.1 (b.2.2 n a.1 w)
    have h2 : ¬ m < n := fun w => b.2.1 (a.2.2 m b.1 w)
    congr 1
    omega
theorem part_sym {g h : Gm} : ∀ {r : Option Int}, IsPart g h r → IsPart h g r
  | none, a => fun m h1 => (a m h1).symm
  | some n, a => ⟨a.1, fun w => a.2.1 w.symm, fun m h1 h2 => (a.2.2 m h1 h2).symm⟩
theorem cl_parting {k : Kx} {g h : Gm} {r : Option Int} (og : g.Ok) (oh : h.Ok) (hr : IsPart g h r) : Cl (g_parting k) [gameD k g, gameD k h] (optD r) := fun R X z => ⟨_, rfl, rfl, g, h, rfl, og, oh, fun s hs => by rw [part_one hs hr]; exact z⟩
theorem bool_one {b c : Bool} {p : Prop} (h1 : b = true ↔ p) (h2 : c = true ↔ p) : b = c := by
  rw [Bool.eq_iff_iff, h1, h2]
theorem cl_alikeB {k : Kx} {g h : Gm} {b : Bool} (og : g.Ok) (oh : h.Ok) (e : b = true ↔ ∀ m, 1 ≤ m → turnsO g m = turnsO h m) : Cl (g_alike k) [gameD k g, gameD k h] (.bl b) := fun R X z => ⟨_, rfl, rfl, g, h, rfl, og, oh, fun c hc => by rw [bool_one hc e]; exact z⟩
theorem cl_never_slowerB {k : Kx} {g h : Gm} {b : Bool} (og : g.Ok) (oh : h.Ok) (e : b = true ↔ ∀ m, 1 ≤ m → slowerB g h m = false) : Cl (g_never_slower k) [gameD k g, gameD k h] (.bl b) := fun R X z => ⟨_, rfl, rfl, g, h, rfl, og, oh, fun c hc => by rw [bool_one hc e]; exact z⟩
end DL

/-! text RX -/
set_option Elab.async false
set_option linter.all false
set_option maxRecDepth 100000
set_option maxHeartbeats 1000000
namespace DL
open PySem PySem.Spec PyProof.Rows L2 RZ
/-! ### several except clauses: which one takes it -/
def XmEq (k : Kx) (x : String) (i : Nat) : List String → Nat → Prop
  | [], _ => True
  | y :: r, j => PySem.W.exmOne k.K (.ref (k.cl x)) (.ref (k.cl y)) = some (i == j) ∧ XmEq k x i r (j + 1)
def XmAll (k : Kx) (H : List String) : List String → Nat → Prop
  | [], _ => True
  | x :: r, i => XmEq k x i H 0 ∧ XmAll k H r (i + 1)
section
variable {K : PySem.W.Frag} {RX : RXd} {D : EndsD} {l : List HdD} {x : Exn} {ρ : En} {C : Addr} {io : Option Nat} {ts : Addr → Option Addr → Exn → TSd} {i : Nat}
theorem rx_skip (h : PySem.W.exmOne K (.ref x.C) (.ref C) = some false) (r : rxMix K RX D l x ρ) : rxMix K RX D ((C, io, ts) :: l) x ρ := by
  cases io <;> exact ⟨false, h, (fun w => by cases w), fun _ => r⟩
theorem rx_take (h : PySem.W.exmOne K (.ref x.C) (.ref C) = some true) (q : ∀ a d, ExOk d x → ts a d x D ρ) : rxMix K RX D ((C, none, ts) :: l) x ρ := ⟨true, h, fun _ => q, fun w => by cases w⟩
theorem rx_takeAs (h : PySem.W.exmOne K (.ref x.C) (.ref C) = some true) (q : ∀ a d, ExOk d x → ts a d x (D.gone i) ⟨ρ.sl.set i (pinSl a d x), ρ.pa⟩) : rxMix K RX D ((C, some i, ts) :: l) x ρ := ⟨true, h, fun _ => q, fun w => by cases w⟩
theorem ExOk.nd {d : Option Addr} (ok : ExOk d x) (h : x.idx = none) : d = none := by
  unfold ExOk at ok
  rw [h] at ok
  exact ok
end
theorem rng_int {lo : Int} {n : Nat} {d : D} (h : d ∈ rangeD lo n) : ∃ i : Nat, i < n ∧ d = .int (lo + i) := by
  unfold rangeD at h
  obtain ⟨i, hi, rfl⟩ := List.mem_map.mp h
  exact ⟨i, List.mem_range.mp hi, rfl⟩
/-! ### values that are told by a word alone; the slots stay -/
def EvS (t : TEd) (ρ : En) (S : D → Prop) : Prop := ∀ Q : D → En → Prop, (∀ x, S x → Q x ρ) → t ρ Q
section
variable {ρ ρ1 : En} {S T U : D → Prop} {ta tb tc te : TEd} {tA : TTd} {t : TAd} {Dd : EndsD} {i j l : Nat} {x y z : D} {k : Kx} {b : Bool}
theorem asg_I {g : TGd} (h : te ρ fun x ρ1 => g x ρ1 Dd.nx) : dAsg te g Dd ρ := h
theorem tup_I {Q : D → En → Prop} (h : t ρ fun xs ρ1 => xs.length ≤ sizeLine ∧ Q (.tup xs) ρ1) : dTup t ρ Q := h
theorem lst_I {Q : D → En → Prop} (h : t ρ fun xs ρ1 => xs.length ≤ sizeLine ∧ Q (.lst xs) ρ1) : dLst t ρ Q := h
theorem cons_I {Q : List D → En → Prop} (h : ta ρ fun x ρ1 => t ρ1 fun xs ρ2 => Q (x :: xs) ρ2) : dCons ta t ρ Q := h
theorem op_I {r : R2d} {Q : D → En → Prop} (h : ta ρ fun x ρ1 => tb ρ1 fun y ρ2 => r x y fun z => Q z ρ2) : dOp r ta tb ρ Q := h
theorem set_I (h : te ρ fun x ρ1 => Dd.nx ⟨ρ1.sl.set i (.d x), ρ1.pa⟩) : dSet i te Dd ρ := h
theorem evs_ev (h : Ev te ρ x ρ) : EvS te ρ (fun y => y = x) := fun Q q => h _ (q x rfl)
theorem evs_imp (h : EvS te ρ S) (i : ∀ x, S x → T x) : EvS te ρ T := fun Q q => h Q fun x s => q x (i x s)
theorem evs_pick (n : Int) (h0 : ρ.thing j = some .row) (ha : EvA t ρ [.int n] ρ) (n0 : 0 < n) (n1 : n < 2 ^ 3000) : EvS (dCall1 j (g_law_pick k) t) ρ (fun x => ∃ r : Int, x = .int r ∧ 0 ≤ r ∧ r < n) := fun Q q => pick_use n h0 ha n0 n1 fun r r0 r1 => q _ ⟨r, rfl, r0, r1⟩
theorem evs_op {r : R2d} (ha : EvS ta ρ S) (hb : EvS tb ρ T) (hr : ∀ x y, S x → T y → ∃ z, RR r x y z ∧ U z) : EvS (dOp r ta tb) ρ U := fun Q q => op_I (ha _ fun x sx => hb _ fun y ty => by
  obtain ⟨z, rz, uz⟩ := hr x y sx ty
  exact rz _ (q z uz))
theorem evs_un {r : R1d} (ha : EvS ta ρ S) (hr : ∀ x, S x → ∃ z, RU r x z ∧ U z) : EvS (dUn r ta) ρ U := fun Q q => ha _ fun x sx => by
  obtain ⟨z, rz, uz⟩ := hr x sx
  exact rz _ (q z uz)
theorem evs_if (hc : EvT tA ρ b ρ) (ha : b = true → EvS ta ρ S) (hb : b = false → EvS tb ρ S) : EvS (dIf tA ta tb) ρ S := fun Q q => by
  refine hc _ ?_
  cases b with
  | true => exact ha rfl _ q
  | false => exact hb rfl _ q
/-- one of a written list -/
theorem evs_ix {l : List D} (ha : Ev ta ρ (.lst l) ρ) (hb : EvS tb ρ (fun x => ∃ r : Int, x = .int r ∧ 0 ≤ r ∧ r < l.length)) : EvS (dOp oIx ta tb) ρ (fun x => x ∈ l) := evs_op (evs_ev ha) hb fun x y hx hy => by
  subst hx
  obtain ⟨r, rfl, r0, r1⟩ := hy
  have lt : r.toNat < l.length := by omega
  exact ⟨l[r.toNat], rr_ixL (at_in r0 (by rw [List.getElem?_eq_getElem lt])), List.getElem_mem lt⟩
theorem st_setS (h : EvS te ρ S) (q : ∀ x, S x → Dd.nx ⟨ρ.sl.set i (.d x), ρ.pa⟩) : dSet i te Dd ρ := h _ q
theorem gs_three {x y z : D} {Q : En → Prop} (q : Q ⟨((ρ.sl.set i (.d x)).set j (.d y)).set l (.d z), ρ.pa⟩) : gsCons (gN i) (gsCons (gN j) (gsCons (gN l) gsNil)) [x, y, z] ρ Q := q
theorem gs_two {x y : D} {Q : En → Prop} (q : Q ⟨(ρ.sl.set i (.d x)).set j (.d y), ρ.pa⟩) : gsCons (gN i) (gsCons (gN j) gsNil) [x, y] ρ Q := q
theorem three_line {a b c : D} : [a, b, c].length ≤ sizeLine := by rw [sizeLine_eq]; show 3 ≤ 16777216; decide
theorem six_line {l : List D} (h : l.length ≤ 16) : l.length ≤ sizeLine := by rw [sizeLine_eq]; omega
theorem st_twoS (ha : EvS ta ρ S) (hb : EvS tb ρ T) (q : ∀ x y, S x → T y → Dd.nx ⟨(ρ.sl.set i (.d x)).set j (.d y), ρ.pa⟩) : dAsg (dTup (dCons ta (dCons tb dNil))) (gT 2 (gsCons (gN i) (gsCons (gN j) gsNil))) Dd ρ :=
  asg_I (tup_I (cons_I (ha _ fun x sx => cons_I (hb _ fun y sy => ⟨two_line, rfl, gs_two (q x y sx sy)⟩))))
theorem st_threeS (ha : EvS ta ρ S) (hb : EvS tb ρ T) (hc : EvS tc ρ U) (q : ∀ x y z, S x → T y → U z → Dd.nx ⟨((ρ.sl.set i (.d x)).set j (.d y)).set l (.d z), ρ.pa⟩) : dAsg (dTup (dCons ta (dCons tb (dCons tc dNil)))) (gT 3 (gsCons (gN i) (gsCons (gN j) (gsCons (gN l) gsNil)))) Dd ρ :=
  asg_I (tup_I (cons_I (ha _ fun x sx => cons_I (hb _ fun y sy => cons_I (hc _ fun z sz => ⟨three_line, rfl, gs_three (q x y z sx sy sz)⟩)))))
theorem st_parS (ha : EvS ta ρ S) (hb : EvS tb ρ T) (q : ∀ x y, S x → T y → Dd.nx ⟨(ρ.sl.set i (.d x)).set j (.d y), ρ.pa⟩) : dPar i j (rD ta) (rD tb) Dd ρ := ha _ fun x sx => hb _ fun y sy => q x y sx sy
theorem st_ifS {s s' : TSd} (hc : EvT tA ρ b ρ) (h1 : b = true → s Dd ρ) (h2 : b = false → s' Dd ρ) : dIfS tA s s' Dd ρ := st_if0 hc h1 h2
/-- own[n] = value -/
theorem st_setLS {l : List D} {n : Int} {m : Nat} {ti : TEd} (h : EvS te ρ S) (h0 : ρ.sl[j]? = some (.own (.lst l))) (hi : Ev ti ρ (.int n) ρ) (hm : ixN l.length n = some m) (q : ∀ x, S x → Dd.nx ⟨ρ.sl.set j (.own (.lst (l.set m x))), ρ.pa⟩) : dAsg te (gSetL j ti) Dd ρ :=
  asg_I (h _ fun x sx => by
    unfold gSetL
    rw [h0]
    refine hi _ ?_
    rw [h0]
    exact ⟨m, hm, q x sx⟩)
end
theorem st_Opar {i j : Nat} {tO : TOd} {tb : TEd} {ρ ρ1 ρ2 : En} {o : OD} {y : D} {Dd : EndsD} (ha : EvO tO ρ o ρ1) (hb : Ev tb ρ1 y ρ2) (q : Dd.nx ⟨(ρ2.sl.set i (.own o)).set j (.d y), ρ2.pa⟩) : dPar i j (rO tO) (rD tb) Dd ρ := ha _ (hb _ q)
theorem evo_lcM {te : TEd} {i : Nat} {ρ : En} {xs : List D} (f : D → D) {ti : TId} (hi : ∀ Qi : List D → En → Prop, Qi xs ρ → ti ρ Qi) (h : i < ρ.sl.length) (hc : ∀ o, ρ.sl[i]? ≠ some (.own o)) (hl : xs.length ≤ sizeLine)
    (he : ∀ d ∈ xs, Ev te (ρ.in1 i d) (f d) (ρ.in1 i d)) : EvO (dLcO ti (gN i) dYes te [i]) ρ (.lst (xs.map f)) ρ := fun Q q =>
  ev_lcM f hi h hc hl he (fun d ρ' => match d with
    | .lst l => Q (.lst l) ρ'
    | _ => False) q
/-- a borrowing call whose answer is one atom -/
def ClB (g : Gd) (ds : List D) (x : D) : Prop := ∀ (R : Rv → List OD → Prop) (X : Exn → List OD → Prop), R (.d x) [] → g (ds.map .d) [] R X
theorem ev_callB {g : Gd} {RX : RXd} {ρ ρ1 : En} {t : TAd} {xs : List D} {x : D} (h : EvA t ρ xs ρ1) (hc : Cl g xs x) (ha : atomD x = true) : Ev (dCallB g RX t) ρ x ρ1 := fun Q q => h _ (hc _ _ ⟨x, rfl, ha, q⟩)
theorem eva_names {ρ : En} {is : List Nat} {xs : List D} (h : bArgs ρ is = some xs) : EvA (dNames is) ρ xs ρ := fun Q q => ⟨xs, h, q⟩
theorem ev_slO {ρ ρ1 : En} {j : Nat} {th : TEd} {l : List D} {n : Int} (h0 : ρ.sl[j]? = some (.own (.lst l))) (h : Ev th ρ (.int n) ρ1) (h1 : ρ1.sl[j]? = some (.own (.lst l))) (hn : 0 ≤ n) : Ev (dSlO j th) ρ (.lst (l.take n.toNat)) ρ1 := fun Q q => by
  unfold dSlO
  rw [h0]
  refine h _ ?_
  rw [h1]
  exact ⟨hn, q⟩
theorem atom_opt (o : Option Int) : atomD (optD o) = true := by cases o <;> rfl
end DL

/-! text GK01 -/
set_option Elab.async false
set_option linter.all false
set_option maxRecDepth 100000
set_option maxHeartbeats 1000000
namespace DL
open PySem PySem.Spec PyProof.Rows L2 RZ
/-- what the text says of Game's == and of isinstance of games -/
structure EqK (k : Kx) : Prop where
  ins : InsK k.K (k.cl "Game")
  kg : PySem.W.kitOne k.K (.ref (k.cl "Game")) (.ref (k.cl "Game")) = some true
  kt : PySem.W.kitOne k.K (.type "tuple") (.ref (k.cl "Game")) = some false
  ks : PySem.W.kitOne k.K (.ref (k.cl "Game")) (.type "str") = some false
  ng : PySem.W.notFirst k.K (k.cl "Game") (.ref (k.cl "Game")) = true
  nt : PySem.W.notFirst k.K (k.cl "Game") (.type "tuple") = true
def gEq (g h : Gm) : Bool := decide (shapeS g.ring = shapeS h.ring) && (decide (g.many = h.many) && (decide (g.far = h.far) && (decide (g.quick = h.quick) && decide (sightS g.al = sightS h.al))))
def g_Game_eq (k : Kx) : Gd := pureG fun ds Q X => (∃ g h, ds = [gameD k g, gameD k h] ∧ Q (.bl (gEq g h))) ∨ (∃ g l, ds = [gameD k g, .tup l] ∧ Q (.bl false))
def g_Game_shape (k : Kx) : Gd := pureG fun ds Q X => ∃ g, ds = [gameD k g] ∧ Q (.str (shapeS g.ring))
def g_Game_catchers (k : Kx) : Gd := pureG fun ds Q X => ∃ g, ds = [gameD k g] ∧ Q (.int g.many)
def g_Game_reach (k : Kx) : Gd := pureG fun ds Q X => ∃ g, ds = [gameD k g] ∧ Q (.int g.far)
def g_Game_flight (k : Kx) : Gd := pureG fun ds Q X => ∃ g, ds = [gameD k g] ∧ Q (.int g.quick)
def g_Game_sight (k : Kx) : Gd := pureG fun ds Q X => ∃ g, ds = [gameD k g] ∧ Q (.str (sightS g.al))
def g_law_int (k : Kx) : Gd := pureG fun ds Q X => ∃ x lo hi, ds = [x, .int lo, .int hi] ∧ okV x ∧ Q (.bl (fromD x lo hi))
def word01 (e : String) : Str := if e = "BadShape" then "shape" else if e = "BadCatchers" then "catchers" else if e = "BadReach" then "reach" else if e = "BadFlight" then "flight" else "sight"
def g_law_told_k01 (k : Kx) : Gd := pureG fun ds Q X => ∃ s m f q t, ds = [.lst [s, m, f, q, t]] ∧ (okV s ∧ okV m ∧ okV f ∧ okV q ∧ okV t) ∧ match gameErr s m f q t with
  | some e => Q (.str (word01 e))
  | none => Q (.ins (k.cl "Game") (gameF s m f q t))
def g_law_due_k01 (k : Kx) : Gd := pureG fun ds Q X => ∃ s m f q t, ds = [.lst [s, m, f, q, t]] ∧ (okV s ∧ okV m ∧ okV f ∧ okV q ∧ okV t) ∧ s.sh 64 = true ∧ t.sh 64 = true ∧ match gameErr s m f q t with
  | some e => Q (.str (word01 e))
  | none => Q .non
end DL

/-! text TK01 -/
set_option Elab.async false
set_option linter.all false
set_option maxRecDepth 100000
set_option maxHeartbeats 4000000
namespace DL
open PySem PySem.Spec PyProof.Rows L2 RZ
/-- Game.__eq__: 0 self 1 other -/
def t_Game_eq (k : Kx) (RX : RXd) : TSd :=
  (dSeq (dIfS ((dOr (dNot (dT (dCB (rIsiD k.K) (dCons (dVar 1) (dCons (dC (.cls (k.cl "Game"))) dNil))))) (dOr (dT (dOp oNe (dFld k.K "form_of" (dVar 0)) (dFld k.K "form_of" (dVar 1)))) (dT (dOp oNe (dFld k.K "many" (dVar 0)) (dFld k.K "many" (dVar 1))))))) (dRet (dC (.bl false))) dNext) (dRet (dAndV (dOp oEq (dFld k.K "far" (dVar 0)) (dFld k.K "far" (dVar 1))) (dAndV (dOp oEq (dFld k.K "quick" (dVar 0)) (dFld k.K "quick" (dVar 1))) (dOp oEq (dFld k.K "seen" (dVar 0)) (dFld k.K "seen" (dVar 1)))))))
/-- Game.catchers: 0 self -/
def t_Game_catchers (k : Kx) (RX : RXd) : TSd :=
  (dRet (dFld k.K "many" (dVar 0)))
/-- Game.flight: 0 self -/
def t_Game_flight (k : Kx) (RX : RXd) : TSd :=
  (dRet (dFld k.K "quick" (dVar 0)))
/-- Game.reach: 0 self -/
def t_Game_reach (k : Kx) (RX : RXd) : TSd :=
  (dRet (dFld k.K "far" (dVar 0)))
/-- Game.shape: 0 self -/
def t_Game_shape (k : Kx) (RX : RXd) : TSd :=
  (dRet (dFld k.K "form_of" (dVar 0)))
/-- Game.sight: 0 self -/
def t_Game_sight (k : Kx) (RX : RXd) : TSd :=
  (dRet (dFld k.K "seen" (dVar 0)))
/-- _law_int: 0 _law_value 1 _law_low 2 _law_high -/
def t_law_int (k : Kx) (RX : RXd) : TSd :=
  (dRet (dAndV (dCB (rIsiD k.K) (dCons (dVar 0) (dCons (dC (.ty "int")) dNil))) (dAndV (dNotV (dCB (rIsiD k.K) (dCons (dVar 0) (dCons (dC (.ty "bool")) dNil)))) (dChain oLe oLe (dVar 1) (dVar 0) (dVar 2)))))
/-- _law_due: 0 _law_values 1 _law_is_odd -/
def t_law_due_k01 (k : Kx) (RX : RXd) : TSd :=
  (dSeq (dIfS (dT (dOp oNotIn (dOp oIx (dVar 0) (dC (.int 0))) (dLst (dCons (dC (.str "path")) (dCons (dC (.str "ring")) dNil))))) (dRet (dC (.str "shape"))) dNext) (dSeq (dIfS (dNot (dT (dCall (g_law_int k) RX (dCons (dOp oIx (dVar 0) (dC (.int 1))) (dCons (dC (.int 1)) (dCons (dC (.int 6)) dNil)))))) (dRet (dC (.str "catchers"))) dNext) (dSeq (dIfS (dNot (dT (dCall (g_law_int k) RX (dCons (dOp oIx (dVar 0) (dC (.int 2))) (dCons (dC (.int 1)) (dCons (dC (.int 5)) dNil)))))) (dRet (dC (.str "reach"))) dNext) (dSeq (dIfS (dNot (dT (dCall (g_law_int k) RX (dCons (dOp oIx (dVar 0) (dC (.int 3))) (dCons (dC (.int 0)) (dCons (dC (.int 5)) dNil)))))) (dRet (dC (.str "flight"))) dNext) (dSeq (dIfS (dT (dOp oNotIn (dOp oIx (dVar 0) (dC (.int 4))) (dLst (dCons (dC (.str "always")) (dCons (dC (.str "never")) dNil))))) (dRet (dC (.str "sight"))) dNext) (dSeq (dSet 1 (dAndV (dOp oEq (dOp oIx (dVar 0) (dC (.int 0))) (dC (.str "ring"))) (dAndV (dOp oEq (dOp oIx (dVar 0) (dC (.int 4))) (dC (.str "never"))) (dOp oIn (dOp oIx (dVar 0) (dC (.int 1))) (dLst (dCons (dC (.int 3)) (dCons (dC (.int 5)) dNil))))))) (dRet (dIf (dT (dVar 1)) (dC (.str "catchers")) (dC .non)))))))))
/-- _law_told: 0 _law_values 1 _law_told_here 2 e -/
def t_law_told_k01 (k : Kx) (RX : RXd) : TSd :=
  (dSeq (dSet 1 (dC .non)) (dSeq (dTryM k.K [(k.cl "BadShape", some 2, fun ea ed ex => (dSet 1 (dIf (dT (dIsE k.K 2 ea ex (.ref (k.cl "ChaseError")))) (dC (.str "shape")) (dC (.str "another"))))), (k.cl "BadCatchers", none, fun ea ed ex => (dSet 1 (dC (.str "catchers")))), (k.cl "BadReach", none, fun ea ed ex => (dSet 1 (dC (.str "reach")))), (k.cl "BadFlight", none, fun ea ed ex => (dSet 1 (dC (.str "flight")))), (k.cl "BadSight", none, fun ea ed ex => (dSet 1 (dC (.str "sight"))))] (fun RX1 => (dSet 1 (dStill (dMakeO (k.cl "Game") (g_Game_init k) RX1 (dCons (dOp oIx (dVar 0) (dC (.int 0))) (dCons (dOp oIx (dVar 0) (dC (.int 1))) (dCons (dOp oIx (dVar 0) (dC (.int 2))) (dCons (dOp oIx (dVar 0) (dC (.int 3))) (dCons (dOp oIx (dVar 0) (dC (.int 4))) dNil))))))))) RX) (dRet (dVar 1))))
/-- law: 0 _law_script 1 _law_row 2 _law_odd 3 _law_before 4 _law_turn 5 _law_g 6 _law_values 7 _law_k 8 _law_told_here 9 _law_due_here 10 _law_one 11 _law_mark -/
def t_law_k01 (k : Kx) (RX : RXd) : TSd :=
  (dSeq (dSetO 1 (dCallO (g_law_draws k) RX (dCons (dVar 0) dNil))) (dSeq (dSet 2 (dLst (dCons (dC .non) (dCons (dC (.str "")) (dCons (dC (.str "paths")) (dCons (dC (.bl true)) (dCons (dUn oNeg (dC (.int 1))) (dCons (dC (.int 7)) (dCons (dC (.int 0)) (dCons (dC (.str "1")) (dCons (dTup (dCons (dC (.str "path")) dNil)) (dCons (dLst (dCons (dC (.int 1)) dNil)) (dCons (dC (.int 6)) dNil))))))))))))) (dSeq (dSetO 3 (dLstO dNil)) (dSeq (dFor (iR1 (dC (.int 14))) (gN 4) (dSeq (dSet 5 (dCall1 1 (g_law_drawn k) (dCons (dC (.int 6)) (dCons (dC (.int 5)) dNil)))) (dSeq (dSetO 6 (dLstO (dCons (dGet (dVar 5) (dC (.str "shape"))) (dCons (dGet (dVar 5) (dC (.str "many"))) (dCons (dGet (dVar 5) (dC (.str "far"))) (dCons (dGet (dVar 5) (dC (.str "quick"))) (dCons (dGet (dVar 5) (dC (.str "seen"))) dNil))))))) (dSeq (dIfS (dT (dOp oEq (dCall1 1 (g_law_pick k) (dCons (dC (.int 4)) dNil)) (dC (.int 0)))) (dAsg (dOp oAdd (dC (.int 1)) (dCall1 1 (g_law_pick k) (dCons (dC (.int 6)) dNil))) (gSetL 6 (dC (.int 1)))) dNext) (dSeq (dFor (iR1 (dCall1 1 (g_law_pick k) (dCons (dC (.int 3)) dNil))) (gN 7) (dAsg (dOp oIx (dVar 2) (dCall1 1 (g_law_pick k) (dCons (dC (.int 11)) dNil))) (gSetL 6 (dCall1 1 (g_law_pick k) (dCons (dC (.int 5)) dNil))))) (dSeq (dAsg (dTup (dCons (dCall (g_law_told_k01 k) RX (dCons (dVar 6) dNil)) (dCons (dCall (g_law_due_k01 k) RX (dCons (dVar 6) dNil)) dNil))) (gT 2 (gsCons (gN 8) (gsCons (gN 9) gsNil)))) (dSeq (dIfS ((dOr ((dAnd (dT (dOp oIsNot (dVar 9) (dC .non))) (dT (dOp oNe (dVar 8) (dVar 9))))) ((dAnd (dT (dOp oIs (dVar 9) (dC .non))) (dT (dCB (rIsiD k.K) (dCons (dVar 8) (dCons (dC (.ty "str")) dNil)))))))) (dRet (dC (.bl false))) dNext) (dIfS (dT (dOp oIs (dVar 9) (dC .non))) (dSeq (dIfS (dT (dOp oNe (dLst (dCons (dProp (k.cl "Game") (g_Game_shape k) (dVar 8)) (dCons (dProp (k.cl "Game") (g_Game_catchers k) (dVar 8)) (dCons (dProp (k.cl "Game") (g_Game_reach k) (dVar 8)) (dCons (dProp (k.cl "Game") (g_Game_flight k) (dVar 8)) (dCons (dProp (k.cl "Game") (g_Game_sight k) (dVar 8)) dNil)))))) (dVar 6))) (dRet (dC (.bl false))) dNext) (dSeq (dIfS (dT (dOp (oEqX k.K (k.cl "Game") (g_Game_eq k)) (dVar 8) (dCB rTuple (dCons (dVar 6) dNil)))) (dRet (dC (.bl false))) dNext) (dSeq (dIfS (dBorT (dT (dOp oNe (dLc (iLst (dVar 3)) (gT 2 (gsCons (gN 10) (gsCons (gN 11) gsNil))) (dT (dOp oNe (dOp (oEqX k.K (k.cl "Game") (g_Game_eq k)) (dVar 10) (dVar 8)) (dOp oEq (dVar 11) (dVar 6)))) (dVar 10) [10, 11]) (dLst dNil)))) (dRet (dC (.bl false))) dNext) (dApp 3 (dTup (dCons (dVar 8) (dCons (dVar 6) dNil))))))) dNext)))))))) (dRet (dC (.bl true)))))))
end DL

/-! text RK01 -/
set_option Elab.async false
set_option linter.all false
set_option maxRecDepth 100000
set_option maxHeartbeats 1000000
set_option exponentiation.threshold 1100000
namespace DL
open PySem PySem.Spec PyProof.Rows L2 RZ
/-- sizeOf_list_dec: one step of a reading's value; array_get_dec: all steps -/
local macro_rules | `(tactic| sizeOf_list_dec) => `(tactic| first
  | exact ev_c | exact ev_var rfl | exact eva_nil | exact evT_yes
  | apply ev_op | apply ev_un | apply ev_not | apply ev_and | apply ev_or | apply ev_chain
  | apply ev_cb | apply ev_call | apply eva_cons | apply ev_tup | apply ev_lst
  | apply evT_val | apply evT_and | apply evT_or | apply evT_not
  | (apply ev_ifI <;> array_get_dec <;> done) | (apply ev_ifS <;> array_get_dec <;> done)
  | exact rr_addI | exact rr_sub | exact rr_lt | exact rr_le | exact rr_gt | exact rr_ge | exact rr_eqI | exact rr_eqS | exact rr_neI | exact rr_neS | exact rr_is | exact rr_isnot | exact rr_eqB | exact rr_neB
  | apply rr_mul | apply rr_div | apply rr_mod | apply rr_pow | exact rr_ixL rfl | exact rr_ixT rfl | apply rr_inL | apply rr_inT | apply rr_notinL | apply rr_notinT
  | exact ru_neg | (intro _; sizeOf_list_dec)
  | exact rr_eq rfl | exact rr_ne rfl
  | exact rc_lenL | exact rc_lenT | exact rc_lenD | exact rc_int | exact rc_intB | exact rc_abs | exact rc_min | exact rc_max | exact rc_tuple | exact rc_list | exact rc_listT
  | array_mem_dec)
local macro_rules | `(tactic| array_get_dec) => `(tactic| repeat' sizeOf_list_dec)
theorem pin_none {a : Addr} {d : Option Addr} {C : Addr} : pinSl a d ⟨C, none⟩ = .pin a := by cases d <;> rfl
theorem gameErr_in {s m f q t : D} {e : String} (h : gameErr s m f q t = some e) : e = "BadShape" ∨ e = "BadCatchers" ∨ e = "BadReach" ∨ e = "BadFlight" ∨ e = "BadSight" := by
  unfold gameErr at h
  repeat' (split at h)
  all_goals first | (cases h; simp; done) | (cases h; done)
abbrev gam5 : List String := ["BadShape", "BadCatchers", "BadReach", "BadFlight", "BadSight"]
theorem r_Game_shape (k : Kx) (gk : GmK k) : Rok 1 0 (g_Game_shape k) (t_Game_shape k) where
  len := by rintro qs π R RX ⟨ds, rfl, rfl, g, rfl, _⟩; rfl
  run := by rintro qs π R RX ⟨ds, rfl, rfl, g, rfl, z⟩; exact st_ret0 (ev_f1 gk (ev_var rfl)) z
theorem r_Game_catchers (k : Kx) (gk : GmK k) : Rok 1 0 (g_Game_catchers k) (t_Game_catchers k) where
  len := by rintro qs π R RX ⟨ds, rfl, rfl, g, rfl, _⟩; rfl
  run := by rintro qs π R RX ⟨ds, rfl, rfl, g, rfl, z⟩; exact st_ret0 (ev_f2 gk (ev_var rfl)) z
theorem r_Game_reach (k : Kx) (gk : GmK k) : Rok 1 0 (g_Game_reach k) (t_Game_reach k) where
  len := by rintro qs π R RX ⟨ds, rfl, rfl, g, rfl, _⟩; rfl
  run := by rintro qs π R RX ⟨ds, rfl, rfl, g, rfl, z⟩; exact st_ret0 (ev_f3 gk (ev_var rfl)) z
theorem r_Game_flight (k : Kx) (gk : GmK k) : Rok 1 0 (g_Game_flight k) (t_Game_flight k) where
  len := by rintro qs π R RX ⟨ds, rfl, rfl, g, rfl, _⟩; rfl
  run := by rintro qs π R RX ⟨ds, rfl, rfl, g, rfl, z⟩; exact st_ret0 (ev_f4 gk (ev_var rfl)) z
theorem r_Game_sight (k : Kx) (gk : GmK k) : Rok 1 0 (g_Game_sight k) (t_Game_sight k) where
  len := by rintro qs π R RX ⟨ds, rfl, rfl, g, rfl, _⟩; rfl
  run := by rintro qs π R RX ⟨ds, rfl, rfl, g, rfl, z⟩; exact st_ret0 (ev_f5 gk (ev_var rfl)) z
theorem isi_cls {k : Kx} {x : D} {C : Addr} {t : Value} {b : Bool} (ty : TyD k.K x t) (h : PySem.W.kitOne k.K t (.ref C) = some b) : RC (rIsiD k.K) [x, .cls C] (.bl b) := rc_isi (.own _) ty h
theorem r_Game_eq (k : Kx) (gk : GmK k) (ek : EqK k) : Rok 2 0 (g_Game_eq k) (t_Game_eq k) where
  len := by
    rintro qs π R RX ⟨ds, rfl, rfl, ⟨g, h, rfl, _⟩ | ⟨g, l, rfl, _⟩⟩ <;> rfl
  run := by
    rintro qs π R RX ⟨ds, rfl, rfl, ⟨g, h, rfl, z⟩ | ⟨g, l, rfl, z⟩⟩
    · unfold gEq at z
      refine st_seq (st_if0 (b := !decide (shapeS g.ring = shapeS h.ring) || !decide (g.many = h.many)) (evT_eq0 (b := false || (!decide (shapeS g.ring = shapeS h.ring) || !decide (g.many = h.many))) (evT_or (evT_eq0 (evT_not (evT_val (ev_cb (eva_cons (ev_var rfl) (eva_cons ev_c eva_nil)) (isi_cls (.i ek.ins) ek.kg)))) rfl) (fun _ => evT_or (evT_val (ev_op (ev_f1 gk (ev_var rfl)) (ev_f1 gk (ev_var rfl)) rr_neS)) (fun _ => evT_val (ev_op (ev_f2 gk (ev_var rfl)) (ev_f2 gk (ev_var rfl)) rr_neI)))) (Bool.false_or _)) (fun w => ?_) (fun w => st_next ?_))
      · have e : (decide (shapeS g.ring = shapeS h.ring) && (decide (g.many = h.many) && (decide (g.far = h.far) && (decide (g.quick = h.quick) && decide (sightS g.al = sightS h.al))))) = false := by
          cases h1 : decide (shapeS g.ring = shapeS h.ring) <;> cases h2 : decide (g.many = h.many) <;> simp_all
        rw [e] at z
        exact st_ret0 ev_c z
      · have h1 : decide (shapeS g.ring = shapeS h.ring) = true := by cases h1 : decide (shapeS g.ring = shapeS h.ring) <;> simp_all
        have h2 : decide (g.many = h.many) = true := by cases h2 : decide (g.many = h.many) <;> simp_all
        rw [h1, h2, Bool.true_and, Bool.true_and] at z
        dsimp only
        exact st_ret0 (ev_and (ev_op (ev_f3 gk (ev_var rfl)) (ev_f3 gk (ev_var rfl)) rr_eqI) (fun _ => ev_and (ev_op (ev_f4 gk (ev_var rfl)) (ev_f4 gk (ev_var rfl)) rr_eqI) (fun _ => ev_op (ev_f5 gk (ev_var rfl)) (ev_f5 gk (ev_var rfl)) rr_eqS))) z
    · refine st_seq (st_if0 (b := true) (evT_eq0 (evT_or (b := true) (c := true) (evT_eq0 (evT_not (evT_val (ev_cb (eva_cons (ev_var rfl) (eva_cons ev_c eva_nil)) (isi_cls (.b rfl) ek.kt)))) rfl) (fun w => by cases w)) rfl) (fun _ => st_ret0 ev_c z) (fun w => by cases w))
theorem r_law_int (k : Kx) : Rok 3 0 (g_law_int k) (t_law_int k) where
  len := by rintro qs π R RX ⟨ds, rfl, rfl, x, lo, hi, rfl, _⟩; rfl
  run := by
    rintro qs π R RX ⟨ds, rfl, rfl, x, lo, hi, rfl, o, z⟩
    cases x with
    | int i =>
      have z2 : R (.d (.bl (true && (true && (decide (lo ≤ i) && decide (i ≤ hi)))))) [] := by
        rw [Bool.true_and, Bool.true_and]
        exact z
      refine st_ret0 (ev_and (ev_cb (eva_cons (ev_var rfl) (eva_cons ev_c eva_nil)) (isi_of (m := "int") rfl rfl)) (fun _ => ev_and (ev_eq0 (y := .bl true) (ev_not (b := false) (ev_cb (eva_cons (ev_var rfl) (eva_cons ev_c eva_nil)) (isi_of (m := "int") rfl rfl))) rfl) (fun _ => ev_chain (ev_var rfl) (ev_var rfl) rr_le (ev_var rfl) rr_le))) z2
    | bl b => exact st_ret0 (x := .bl (true && (false && false))) (ev_and (ev_cb (eva_cons (ev_var rfl) (eva_cons ev_c eva_nil)) (isi_of (m := "bool") rfl rfl)) (fun _ => ev_and (ev_eq0 (y := .bl false) (ev_not (b := true) (ev_cb (eva_cons (ev_var rfl) (eva_cons ev_c eva_nil)) (isi_of (m := "bool") rfl rfl))) rfl) (fun w => by cases w))) z
    | non => exact st_ret0 (x := .bl (false && false)) (ev_and (ev_cb (eva_cons (ev_var rfl) (eva_cons ev_c eva_nil)) (isi_of (m := "NoneType") rfl rfl)) (fun w => by cases w)) z
    | str s => exact st_ret0 (x := .bl (false && false)) (ev_and (ev_cb (eva_cons (ev_var rfl) (eva_cons ev_c eva_nil)) (isi_of (m := "str") rfl rfl)) (fun w => by cases w)) z
    | lst s => exact st_ret0 (x := .bl (false && false)) (ev_and (ev_cb (eva_cons (ev_var rfl) (eva_cons ev_c eva_nil)) (isi_of (m := "list") rfl rfl)) (fun w => by cases w)) z
    | tup s => exact st_ret0 (x := .bl (false && false)) (ev_and (ev_cb (eva_cons (ev_var rfl) (eva_cons ev_c eva_nil)) (isi_of (m := "tuple") rfl rfl)) (fun w => by cases w)) z
    | dic s => exact st_ret0 (x := .bl (false && false)) (ev_and (ev_cb (eva_cons (ev_var rfl) (eva_cons ev_c eva_nil)) (isi_of (m := "dict") rfl rfl)) (fun w => by cases w)) z
    | _ => obtain ⟨n, h⟩ := o; cases h
theorem cl_law_int {k : Kx} {x : D} {lo hi : Int} (o : okV x) : Cl (g_law_int k) [x, .int lo, .int hi] (.bl (fromD x lo hi)) := fun R X z => ⟨_, rfl, rfl, x, lo, hi, rfl, o, z⟩
theorem in_shapes (x : D) : inD x [.str "path", .str "ring"] = oneD x shapesD := by
  cases x <;> simp [inD, oneD, shapesD, eqD]
theorem in_sights (x : D) : inD x [.str "always", .str "never"] = oneD x sightsD := by
  cases x <;> simp [inD, oneD, sightsD, eqD]
theorem sh_two {a b : Str} (ha : PyData.strOk a = true) (hb : PyData.strOk b = true) : shL [.str a, .str b] 63 = true := by
  simp [shL, D.sh, ha, hb]
theorem okin_shapes {x : D} (h : x.sh 64 = true) : okIn x [.str "path", .str "ring"] = true := by
  unfold okIn
  rw [h, sh_two (by decide +kernel) (by decide +kernel)]
  simp
theorem okin_sights {x : D} (h : x.sh 64 = true) : okIn x [.str "always", .str "never"] = true := by
  unfold okIn
  rw [h, sh_two (by decide +kernel) (by decide +kernel)]
  simp
theorem r_law_told_k01 (k : Kx) (hx : XmAll k gam5 gam5 0) (hk : PySem.W.kitOne k.K (.ref (k.cl "BadShape")) (.ref (k.cl "ChaseError")) = some true) (hc : ExcC k.K (k.cl "BadShape")) (on : k.ex = true) : Rok 1 2 (g_law_told_k01 k) (t_law_told_k01 k) where
  len := by
    rintro qs π R RX ⟨ds, rfl, rfl, s, m, f, q, t, rfl, _⟩
    rfl
  run := by
    rintro qs π R RX ⟨ds, rfl, rfl, s, m, f, q, t, rfl, o, z⟩
    obtain ⟨⟨a00, a01, a02, a03, a04, _⟩, ⟨a10, a11, a12, a13, a14, _⟩, ⟨a20, a21, a22, a23, a24, _⟩, ⟨a30, a31, a32, a33, a34, _⟩, ⟨a40, a41, a42, a43, a44, _⟩, _⟩ := hx
    refine st_seq (st_set0 ev_c ?_)
    dsimp only
    refine st_seq ?_
    have a : EvA (dCons (dOp oIx (dVar 0) (dC (.int 0))) (dCons (dOp oIx (dVar 0) (dC (.int 1))) (dCons (dOp oIx (dVar 0) (dC (.int 2))) (dCons (dOp oIx (dVar 0) (dC (.int 3))) (dCons (dOp oIx (dVar 0) (dC (.int 4))) dNil))))) ⟨[.d (.lst [s, m, f, q, t]), .d .non, .no], []⟩ [s, m, f, q, t] ⟨[.d (.lst [s, m, f, q, t]), .d .non, .no], []⟩ := by
      array_get_dec
    show dMakeO (k.cl "Game") (g_Game_init k) _ _ _ _
    refine a _ ⟨s, m, f, q, t, rfl, rfl, o, ?_⟩
    cases e : gameErr s m f q t with
    | none =>
      rw [e] at z
      refine ⟨rfl, _, rfl, rfl, ?_⟩
      dsimp only
      exact st_ret0 (ev_var rfl) z
    | some w =>
      rw [e] at z
      dsimp only at z ⊢
      refine ⟨on, ?_⟩
      rcases gameErr_in e with rfl | rfl | rfl | rfl | rfl
      · refine rx_takeAs a00 fun a d _ => ?_
        rw [pin_none]
        have e1 : EvT (dT (dIsE k.K 2 a ⟨k.cl "BadShape", none⟩ (.ref (k.cl "ChaseError")))) ⟨[.d (.lst [s, m, f, q, t]), .d .non, .pin a], []⟩ true ⟨[.d (.lst [s, m, f, q, t]), .d .non, .pin a], []⟩ := fun Q q => ⟨rfl, rfl, hc, true, hk, q⟩
        refine st_set (x := .str "shape") (ev_if0 e1 (fun _ => ev_c) (fun w => by cases w)) ?_
        exact (st_ret0 (ev_var rfl) z : dRet (dVar 1) { nx := fun ρ => R (.d .non) ρ.pa, rt := fun r ρ => R r ρ.pa } ⟨[.d (.lst [s, m, f, q, t]), .d (.str "shape"), .no], []⟩)
      · exact rx_skip a10 (rx_take a11 fun _ _ _ => st_set0 ev_c (by dsimp only; exact st_ret0 (ev_var rfl) z))
      · exact rx_skip a20 (rx_skip a21 (rx_take a22 fun _ _ _ => st_set0 ev_c (by dsimp only; exact st_ret0 (ev_var rfl) z)))
      · exact rx_skip a30 (rx_skip a31 (rx_skip a32 (rx_take a33 fun _ _ _ => st_set0 ev_c (by dsimp only; exact st_ret0 (ev_var rfl) z))))
      · exact rx_skip a40 (rx_skip a41 (rx_skip a42 (rx_skip a43 (rx_take a44 fun _ _ _ => st_set0 ev_c (by dsimp only; exact st_ret0 (ev_var rfl) z)))))
theorem in_odd (m : Int) : inD (.int m) [.int 3, .int 5] = (decide (m = 3) || decide (m = 5)) := by
  unfold inD
  simp only [List.any_cons, List.any_nil, eqD, Bool.or_false]
  rw [Bool.eq_iff_iff]
  simp only [Bool.or_eq_true, decide_eq_true_eq]
  omega
theorem r_law_due_k01 (k : Kx) : Rok 1 1 (g_law_due_k01 k) (t_law_due_k01 k) where
  len := by
    rintro qs π R RX ⟨ds, rfl, rfl, s, m, f, q, t, rfl, _⟩
    rfl
  run := by
    rintro qs π R RX ⟨ds, rfl, rfl, s, m, f, q, t, rfl, ⟨os, om, of_, oq, ot⟩, ss, st, z⟩
    unfold gameErr at z
    refine st_seq (st_if0 (b := !oneD s shapesD) (evT_eq0 (evT_val (ev_op (x := s) (ev_op (ev_var rfl) ev_c (rr_ixL rfl)) (ev_lst (eva_cons ev_c (eva_cons ev_c eva_nil)) two_line) (rr_notinL (okin_shapes ss)))) (by rw [in_shapes])) (fun w => ?_) (fun w => ?_))
    · rw [if_pos (by simpa using w)] at z
      exact st_ret0 ev_c z
    have e1 : oneD s shapesD = true := by simpa using w
    rw [if_neg (by rw [e1]; decide)] at z
    refine st_next ?_
    dsimp only
    refine st_seq (st_if0 (b := !fromD m 1 6) (evT_not (evT_val (ev_call (eva_cons (ev_op (ev_var rfl) ev_c (rr_ixL rfl)) (eva_cons ev_c (eva_cons ev_c eva_nil))) (cl_law_int om)))) (fun w => ?_) (fun w => ?_))
    · rw [if_pos (by simpa using w)] at z
      exact st_ret0 ev_c z
    have e2 : fromD m 1 6 = true := by simpa using w
    rw [if_neg (by rw [e2]; decide)] at z
    refine st_next ?_
    dsimp only
    refine st_seq (st_if0 (b := !fromD f 1 5) (evT_not (evT_val (ev_call (eva_cons (ev_op (ev_var rfl) ev_c (rr_ixL rfl)) (eva_cons ev_c (eva_cons ev_c eva_nil))) (cl_law_int of_)))) (fun w => ?_) (fun w => ?_))
    · rw [if_pos (by simpa using w)] at z
      exact st_ret0 ev_c z
    have e3 : fromD f 1 5 = true := by simpa using w
    rw [if_neg (by rw [e3]; decide)] at z
    refine st_next ?_
    dsimp only
    refine st_seq (st_if0 (b := !fromD q 0 5) (evT_not (evT_val (ev_call (eva_cons (ev_op (ev_var rfl) ev_c (rr_ixL rfl)) (eva_cons ev_c (eva_cons ev_c eva_nil))) (cl_law_int oq)))) (fun w => ?_) (fun w => ?_))
    · rw [if_pos (by simpa using w)] at z
      exact st_ret0 ev_c z
    have e4 : fromD q 0 5 = true := by simpa using w
    rw [if_neg (by rw [e4]; decide)] at z
    refine st_next ?_
    dsimp only
    refine st_seq (st_if0 (b := !oneD t sightsD) (evT_eq0 (evT_val (ev_op (x := t) (ev_op (ev_var rfl) ev_c (rr_ixL rfl)) (ev_lst (eva_cons ev_c (eva_cons ev_c eva_nil)) two_line) (rr_notinL (okin_sights st)))) (by rw [in_sights])) (fun w => ?_) (fun w => ?_))
    · rw [if_pos (by simpa using w)] at z
      exact st_ret0 ev_c z
    have e5 : oneD t sightsD = true := by simpa using w
    rw [if_neg (by rw [e5]; decide)] at z
    refine st_next ?_
    dsimp only
    obtain ⟨b, rfl⟩ := shape_of e1
    obtain ⟨i, rfl, i1, i6⟩ := from_of e2
    obtain ⟨c, rfl⟩ := sight_of e5
    dsimp only at z
    have key : untoldB (shapeS b) i (sightS c) = (b && (!c && (decide (i = 3) || decide (i = 5)))) := by
      unfold untoldB
      rw [sh_ring, al_never]
      congr 2
      rw [Bool.eq_iff_iff]
      simp only [Bool.and_eq_true, Bool.or_eq_true, decide_eq_true_eq]
      omega
    rw [key] at z
    refine st_seq (st_set0 (x := .bl (b && (!c && (decide (i = 3) || decide (i = 5))))) (ev_and (ev_eq0 (ev_op (ev_op (ev_var rfl) ev_c (rr_ixL rfl)) ev_c rr_eqS) (congrArg D.bl (sh_ring b))) (fun _ => ev_and (ev_eq0 (ev_op (ev_op (ev_var rfl) ev_c (rr_ixL rfl)) ev_c rr_eqS) (congrArg D.bl (al_never c))) (fun _ => ev_eq0 (ev_op (x := .int i) (ev_op (ev_var rfl) ev_c (rr_ixL rfl)) (ev_lst (eva_cons ev_c (eva_cons ev_c eva_nil)) two_line) (rr_inL rfl)) (congrArg D.bl (in_odd i))))) ?_)
    dsimp only
    cases hb : (b && (!c && (decide (i = 3) || decide (i = 5)))) with
    | true =>
      rw [hb, if_pos rfl] at z
      exact st_ret0 (ev_if0 (b := true) (evT_val (ev_var rfl)) (fun _ => ev_c) (fun w => by cases w)) z
    | false =>
      rw [hb, if_neg (by decide)] at z
      exact st_ret0 (ev_if0 (b := false) (evT_val (ev_var rfl)) (fun w => by cases w) (fun _ => ev_c)) z
end DL

/-! text TX12 -/
set_option Elab.async false
set_option linter.all false
set_option maxRecDepth 100000
set_option maxHeartbeats 400000
/-! The words of a text, in plain Lean. -/
namespace DL
open PySem PySem.Spec PyProof.Rows L2 RZ
open PySem.Builtin PySem.Builtin.Str
namespace TX
def sp : Str := ⟨#[32]⟩
theorem sp_eq : ((" " : Str)) = sp := by decide +kernel
def free (w : Str) : Prop := 32 ∉ w.cps.toList
theorem free_empty : free ((("" : Str))) := by
  show 32 ∉ (("" : Str)).cps.toList
  decide +kernel
def joinL : List (List Nat) → List Nat
  | [] => []
  | [x] => x
  | x :: y :: r => x ++ 32 :: joinL (y :: r)
theorem joinL_cons (x : List Nat) {r : List (List Nat)} (h : r ≠ []) : joinL (x :: r) = x ++ 32 :: joinL r := by
  cases r with
  | nil => exact absurd rfl h
  | cons y r => rfl
theorem join_list : ∀ ps : List Str, (Str.join sp ps).cps.toList = joinL (ps.map fun p => p.cps.toList)
  | [] => rfl
  | [x] => rfl
  | x :: y :: r => by
    have ih := join_list (y :: r)
    show (x ++ sp ++ Str.join sp (y :: r)).cps.toList = _
    rw [List.map_cons, joinL_cons _ (by simp), ← ih]
    show (x.cps ++ #[32] ++ (Str.join sp (y :: r)).cps).toList = _
    simp
theorem cut_free : ∀ {p q A B : List Nat}, 32 ∉ p → 32 ∉ q → p ++ 32 :: A = q ++ 32 :: B → p = q ∧ A = B
  | [], [], A, B, _, _, h => by
    simp at h
    exact ⟨rfl, h⟩
  | [], c :: q, A, B, _, hq, h => by
    simp at h
    exact absurd h.1 (fun w => hq (by simp [← w]))
  | c :: p, [], A, B, hp, _, h => by
    simp at h
    exact absurd h.1 (fun w => hp (by simp [w]))
  | c :: p, d :: q, A, B, hp, hq, h => by
    simp only [List.cons_append, List.cons.injEq] at h
    obtain ⟨rfl, h⟩ := h
    obtain ⟨e1, e2⟩ := cut_free (fun w => hp (List.mem_cons_of_mem _ w)) (fun w => hq (List.mem_cons_of_mem _ w)) h
    exact ⟨by rw [e1], e2⟩
theorem joinL_inj : ∀ {ps qs : List (List Nat)}, ps ≠ [] → qs ≠ [] → (∀ p ∈ ps, 32 ∉ p) → (∀ q ∈ qs, 32 ∉ q) → joinL ps = joinL qs → ps = qs
  | [], _, h, _, _, _, _ => absurd rfl h
  | _, [], _, h, _, _, _ => absurd rfl h
  | [p], [q], _, _, _, _, h => by
    have : p = q := h
    rw [this]
  | [p], q :: q' :: r, _, _, hp, hq, h => by
    rw [joinL_cons q (by simp)] at h
    have h' : p = q ++ 32 :: joinL (q' :: r) := h
    exact absurd (by rw [h']; simp) (hp p (by simp))
  | p :: p' :: r, [q], _, _, hp, hq, h => by
    rw [joinL_cons p (by simp)] at h
    have h' : p ++ 32 :: joinL (p' :: r) = q := h
    exact absurd (by rw [← h']; simp) (hq q (by simp))
  | p :: p' :: r, q :: q' :: t, _, _, hp, hq, h => by
    rw [joinL_cons p (by simp), joinL_cons q (by simp)] at h
    obtain ⟨e1, e2⟩ := cut_free (hp p (by simp)) (hq q (by simp)) h
    have ih := joinL_inj (ps := p' :: r) (qs := q' :: t) (by simp) (by simp) (fun x hx => hp x (List.mem_cons_of_mem _ hx)) (fun x hx => hq x (List.mem_cons_of_mem _ hx)) e2
    rw [e1, ih]
theorem split_join {ps : List Str} (h : ps ≠ []) (hf : ∀ p ∈ ps, free p) : Txt.split (Str.join sp ps) sp = ps := by
  have e1 : Str.join sp (Txt.split (Str.join sp ps) sp) = Str.join sp ps := StrLaws.join_split _ _
  have e2 : ∀ p ∈ Txt.split (Str.join sp ps) sp, free p := fun p hp => StrLaws.split_free _ 32 p hp
  have ne : Txt.split (Str.join sp ps) sp ≠ [] := fun w => by
    have := split_pos (Str.join sp ps) sp
    rw [w] at this
    simp at this
  have e3 := congrArg (fun s : Str => s.cps.toList) e1
  simp only [join_list] at e3
  have e4 := joinL_inj (by simpa using ne) (by simpa using h) (fun p hp => by
    obtain ⟨q, hq, rfl⟩ := List.mem_map.mp hp
    exact e2 q hq) (fun p hp => by
    obtain ⟨q, hq, rfl⟩ := List.mem_map.mp hp
    exact hf q hq) e3
  exact (List.map_inj_right (fun a b h => str_ext h)).mp e4
/-- the words -/
def toks (t : Str) : List Str := (Txt.split t sp).filter fun w => !decide (w = "")
def full (ps : List Str) : List Str := ps.filter fun w => !decide (w = "")
theorem toks_join {ps : List Str} (hf : ∀ p ∈ ps, free p) : toks (Str.join sp ps) = full ps := by
  cases ps with
  | nil =>
    have e : Str.join sp [] = Str.join sp [((("" : Str)))] := by decide +kernel
    unfold toks full
    rw [e, split_join (by simp) (fun p hp => by rw [List.mem_singleton] at hp; subst hp; exact free_empty)]
    rfl
  | cons p r =>
    unfold toks full
    rw [split_join (by simp) hf]
theorem text_join (t : Str) : ∃ ps : List Str, ps ≠ [] ∧ (∀ p ∈ ps, free p) ∧ t = Str.join sp ps :=
  ⟨Txt.split t sp, fun w => by have := split_pos t sp; rw [w] at this; simp at this, fun p hp => StrLaws.split_free _ 32 p hp, (StrLaws.join_split t sp).symm⟩
theorem join_cons (x : Str) {r : List Str} (h : r ≠ []) : Str.join sp (x :: r) = x ++ sp ++ Str.join sp r := by
  cases r with
  | nil => exact absurd rfl h
  | cons y r => rfl
theorem app_assoc (a b c : Str) : a ++ b ++ c = a ++ (b ++ c) := str_ext (by
  show (a.cps ++ b.cps ++ c.cps).toList = (a.cps ++ (b.cps ++ c.cps)).toList
  simp)
theorem empty_app (a : Str) : ((("" : Str))) ++ a = a := str_ext (by
  show ((("" : Str)).cps ++ a.cps).toList = _
  have : (("" : Str)).cps = #[] := by decide +kernel
  rw [this]
  simp)
theorem app_empty (a : Str) : a ++ ((("" : Str))) = a := str_ext (by
  show (a.cps ++ (("" : Str)).cps).toList = _
  have : (("" : Str)).cps = #[] := by decide +kernel
  rw [this]
  simp)
theorem join_snoc : ∀ (qs : List Str) (a b : Str), Str.join sp (qs ++ [a]) ++ b = Str.join sp (qs ++ [a ++ b])
  | [], a, b => rfl
  | q :: qs, a, b => by
    rw [List.cons_append, List.cons_append, join_cons q (by simp), join_cons q (by simp), app_assoc, join_snoc qs a b]
theorem join_app1 : ∀ (qs : List Str), qs ≠ [] → Str.join sp (qs ++ [((("" : Str)))]) = Str.join sp qs ++ sp
  | [], h => absurd rfl h
  | [q], _ => by
    show q ++ sp ++ ((("" : Str))) = q ++ sp
    rw [app_empty]
  | q :: q' :: r, _ => by
    rw [List.cons_append, join_cons q (by simp), join_app1 (q' :: r) (by simp), join_cons q (by simp)]
    simp only [app_assoc]
theorem repS_succ (n : Nat) : repS sp (n + 1) = repS sp n ++ sp := str_ext (by
  show _ = ((repS sp n).cps ++ #[32]).toList
  rw [repS_cps, Array.toList_append, repS_cps, List.replicate_succ', List.flatten_append]
  simp [sp])
theorem repS_zero (a : Str) : repS a 0 = "" := str_ext (by
  rw [repS_cps]
  have : (("" : Str)).cps.toList = [] := by decide +kernel
  rw [this]
  simp)
/-- spaces behind a text of parts -/
theorem join_spaces (qs : List Str) (h : qs ≠ []) : ∀ n, Str.join sp (qs ++ List.replicate n ((("" : Str)))) = Str.join sp qs ++ repS sp n
  | 0 => by rw [repS_zero, app_empty]; simp
  | n + 1 => by
    rw [List.replicate_succ', ← List.append_assoc, join_app1 _ (by simp [h]), join_spaces qs h n, repS_succ, app_assoc]
theorem spaces_join (n : Nat) : repS sp n = Str.join sp (List.replicate (n + 1) ((("" : Str)))) := by
  have := join_spaces [((("" : Str)))] (by simp) n
  rw [show ([((("" : Str)))] ++ List.replicate n ((("" : Str)))) = List.replicate (n + 1) ((("" : Str))) from rfl] at this
  rw [this]
  show repS sp n = ((("" : Str))) ++ repS sp n
  rw [empty_app]
theorem full_app (a b : List Str) : full (a ++ b) = full a ++ full b := List.filter_append ..
theorem full_rep (n : Nat) : full (List.replicate n ((("" : Str)))) = [] := by
  unfold full
  rw [List.filter_eq_nil_iff]
  intro w hw
  rw [List.eq_of_mem_replicate hw]
  decide
theorem full_all {ws : List Str} (h : ∀ w ∈ ws, w ≠ "") : full ws = ws := List.filter_eq_self.mpr fun w hw => by simp [h w hw]
/-- spaces ahead of a text of parts -/
theorem ahead (n : Nat) {ps : List Str} (h : ps ≠ []) : repS sp n ++ Str.join sp ps = Str.join sp (List.replicate n ((("" : Str))) ++ ps) := by
  induction n with
  | zero => rw [repS_zero, empty_app]; rfl
  | succ n ih =>
    rw [List.replicate_succ, List.cons_append, join_cons _ (by simp [h]), ← ih, empty_app]
    have : repS sp (n + 1) = sp ++ repS sp n := str_ext (by
      show _ = (#[32] ++ (repS sp n).cps).toList
      rw [repS_cps, Array.toList_append, repS_cps, List.replicate_succ, List.flatten_cons]
      simp [sp])
    rw [this, app_assoc]
theorem toks_pad (a b : Nat) (y : Str) : toks (repS sp a ++ (y ++ repS sp b)) = toks y := by
  obtain ⟨ps, ne, hf, rfl⟩ := text_join y
  rw [← join_spaces ps ne, ahead a (by simp [ne]), toks_join, toks_join hf, full_app, full_app, full_rep, full_rep]
  · simp
  · intro p hp
    rcases List.mem_append.mp hp with hp | hp
    · rw [List.eq_of_mem_replicate hp]; exact free_empty
    · rcases List.mem_append.mp hp with hp | hp
      · exact hf p hp
      · rw [List.eq_of_mem_replicate hp]; exact free_empty
theorem all_eq (l : List Nat) (h : ∀ k, k < l.length → l.getD k 0 = 32) : l = List.replicate l.length 32 := by
  refine List.eq_replicate_iff.mpr ⟨rfl, fun b hb => ?_⟩
  obtain ⟨k, hk, e⟩ := List.getElem_of_mem hb
  have := h k hk
  rw [List.getD_eq_getElem?_getD, List.getElem?_eq_getElem hk] at this
  rw [← e]
  exact this
theorem repS_sp (n : Nat) : (repS sp n).cps.toList = List.replicate n 32 := by
  rw [repS_cps]
  induction n with
  | zero => rfl
  | succ n ih => rw [List.replicate_succ, List.flatten_cons, ih]; rfl
theorem strip_pad (x : Str) : ∃ a b, x = repS sp a ++ (Txt.stripChars x sp ++ repS sp b) := by
  have goes : ∀ c, sp.cps.contains c = true → c = 32 := fun c h => by simpa [sp] using h
  obtain ⟨a0, a1, a2⟩ := lo_facts sp.cps.contains x
  obtain ⟨b0, b1, b2, b3⟩ := hi_facts sp.cps.contains x (stripLo sp.cps.contains true x) a0
  refine ⟨stripLo sp.cps.contains true x, x.length - stripHi sp.cps.contains true x (stripLo sp.cps.contains true x), str_ext ?_⟩
  unfold Txt.stripChars
  rw [stripBy_eq]
  generalize stripLo sp.cps.contains true x = lo at *
  generalize stripHi sp.cps.contains true x lo = hi at *
  have hn : x.cps.toList.length = x.length := by simp [Str.length]
  have e1 : x.cps.toList.take lo = List.replicate lo 32 := by
    have l1 : (x.cps.toList.take lo).length = lo := by rw [List.length_take, hn]; omega
    have := all_eq (x.cps.toList.take lo) fun k hk => by
      rw [l1] at hk
      have := goes _ (a1 k hk)
      rw [← getD_list] at this
      rw [List.getD_eq_getElem?_getD, List.getElem?_take_of_lt hk, ← List.getD_eq_getElem?_getD]
      exact this
    rw [l1] at this
    exact this
  have e2 : x.cps.toList.drop hi = List.replicate (x.length - hi) 32 := by
    have l1 : (x.cps.toList.drop hi).length = x.length - hi := by rw [List.length_drop, hn]
    have := all_eq (x.cps.toList.drop hi) fun k hk => by
      rw [l1] at hk
      have := goes _ (b2 (hi + k) (by omega) (by omega))
      rw [← getD_list] at this
      rw [drop_getD]
      exact this
    rw [l1] at this
    exact this
  show x.cps.toList = ((repS sp lo).cps ++ ((strSub x lo hi).cps ++ (repS sp (x.length - hi)).cps)).toList
  rw [Array.toList_append, Array.toList_append, repS_sp, repS_sp, ← e1, ← e2]
  have e3 : (strSub x lo hi).cps.toList = (x.cps.toList.drop lo).take (hi - lo) := by
    first
      | (rw [strSub_mk])
      | (unfold strSub; simp [Array.toList_extract, List.extract_eq_drop_take])
  rw [e3]
  have e4 : x.cps.toList.drop hi = (x.cps.toList.drop lo).drop (hi - lo) := by
    rw [List.drop_drop]
    congr 1
    omega
  rw [e4, List.take_append_drop, List.take_append_drop]
theorem toks_strip (x : Str) : toks (Txt.stripChars x sp) = toks x := by
  obtain ⟨a, b, e⟩ := strip_pad x
  have := toks_pad a b (Txt.stripChars x sp)
  rw [← e] at this
  exact this.symm
end TX
end DL

/-! text GK12 -/
set_option Elab.async false
set_option linter.all false
set_option maxRecDepth 100000
set_option maxHeartbeats 1000000
namespace DL
open PySem PySem.Spec PyProof.Rows L2 RZ
/-! ### promises of the law of the texts -/
def numD : D → D
  | .int i => .str (toString i)
  | _ => .non
def g_numbers (k : Kx) : Gd := pureG fun ds Q X => ∃ lo hi : Int, ds = [.int lo, .int hi] ∧ -1000 ≤ lo ∧ lo ≤ 1000 ∧ -1000 ≤ hi ∧ hi ≤ 1000 ∧ Q (.lst ((rangeD lo (hi + 1 - lo).toNat).map numD))
inductive Rd where
  | bad (i : Nat) | ok (g : Gm)
def digS : List Str := ["0", "1", "2", "3", "4", "5", "6"]
def due12 : List (List Str) := [["chase"], ["path", "ring"], ["1", "2", "3", "4", "5", "6"], ["1", "2", "3", "4", "5"], ["0", "1", "2", "3", "4", "5"], ["always", "never"]]
def wAt (ws : List Str) (k : Nat) : Str := ws.getD k ""
def fineAt (ws : List Str) (k : Nat) : Bool := decide (k < ws.length) && (due12.getD k []).contains (wAt ws k)
def numW (w : Str) : Int := (digS.findIdx fun x => decide (x = w) : Nat)
def gameW (ws : List Str) : Gm := ⟨decide (wAt ws 1 = "ring"), numW (wAt ws 2), numW (wAt ws 3), numW (wAt ws 4), decide (wAt ws 5 = "always")⟩
def untoldW (ws : List Str) : Bool := decide (wAt ws 1 = "ring") && (decide (wAt ws 5 = "never") && (decide (1 < numW (wAt ws 2)) && decide (numW (wAt ws 2) % 2 = 1)))
/-- what a text of these words reads as -/
def readW (ws : List Str) : Rd := match (List.range 6).find? (fun k => !fineAt ws k) with
  | some k => .bad (k + 1)
  | none => if untoldW ws = true then .bad 6 else if 6 < ws.length then .bad 7 else .ok (gameW ws)
def g_read (k : Kx) : Gd := pureG fun ds Q X => ∃ t, ds = [.str t] ∧ t.length ≤ 10000 ∧ (TX.toks t).length ≤ 1000 ∧ match readW (TX.toks t) with
  | .bad i => k.ex = true ∧ X ⟨k.cl "BadWord", some (.int (i : Int))⟩
  | .ok g => Q (gameD k g)
def rdD (k : Kx) : Rd → D
  | .bad i => .int (i : Int)
  | .ok g => gameD k g
def g_law_told_k12 (k : Kx) : Gd := pureG fun ds Q X => ∃ t, ds = [.str t] ∧ t.length ≤ 10000 ∧ (TX.toks t).length ≤ 1000 ∧ Q (rdD k (readW (TX.toks t)))
def g_law_due_k12 (k : Kx) : Gd := pureG fun ds Q X => ∃ ws : List Str, ds = [.lst (ws.map .str)] ∧ ws.length ≤ 1000 ∧ (∀ w ∈ ws, w ≠ "") ∧ Q (rdD k (readW ws))
def wordsG (g : Gm) : List Str := ["chase", shapeS g.ring, toString g.many, toString g.far, toString g.quick, sightS g.al]
def g_law_words_of (k : Kx) : Gd := pureG fun ds Q X => ∃ g, ds = [.dic (lawGD g)] ∧ g.Ok ∧ Q (.lst ((wordsG g).map .str))
def g_write (k : Kx) : Gd := pureG fun ds Q X => ∃ g, ds = [gameD k g] ∧ g.Ok ∧ Q (.str (Str.join TX.sp (wordsG g)))
end DL

/-! text TK12 -/
set_option Elab.async false
set_option linter.all false
set_option maxRecDepth 100000
set_option maxHeartbeats 4000000
/-! Readings, printed by gen.py. -/
namespace DL
open PySem PySem.Spec PyProof.Rows L2 RZ
/-- _law_due: 0 _law_words 1 _law_lists 2 _law_k -/
def t_law_due_k12 (k : Kx) (RX : RXd) : TSd :=
  (dSeq (dSet 1 (dLst (dCons (dLst (dCons (dC (.str "chase")) dNil)) (dCons (dLst (dCons (dC (.str "path")) (dCons (dC (.str "ring")) dNil))) (dCons (dLst (dCons (dC (.str "1")) (dCons (dC (.str "2")) (dCons (dC (.str "3")) (dCons (dC (.str "4")) (dCons (dC (.str "5")) (dCons (dC (.str "6")) dNil))))))) (dCons (dLst (dCons (dC (.str "1")) (dCons (dC (.str "2")) (dCons (dC (.str "3")) (dCons (dC (.str "4")) (dCons (dC (.str "5")) dNil)))))) dNil)))))) (dSeq (dSet 1 (dOp oAdd (dVar 1) (dLst (dCons (dLst (dCons (dC (.str "0")) (dCons (dC (.str "1")) (dCons (dC (.str "2")) (dCons (dC (.str "3")) (dCons (dC (.str "4")) (dCons (dC (.str "5")) dNil))))))) (dCons (dLst (dCons (dC (.str "always")) (dCons (dC (.str "never")) dNil))) dNil))))) (dSeq (dFor (iR1 (dC (.int 6))) (gN 2) (dIfS (dT (dOp oNotIn (dOp oIx (dOp oAdd (dVar 0) (dOp oMul (dLst (dCons (dC (.str "")) dNil)) (dC (.int 7)))) (dVar 2)) (dOp oIx (dVar 1) (dVar 2)))) (dRet (dOp oAdd (dVar 2) (dC (.int 1)))) dNext)) (dSeq (dIfS ((dAnd (dT (dOp oEq (dOp oIx (dVar 0) (dC (.int 1))) (dC (.str "ring")))) (dAnd (dT (dOp oIn (dOp oIx (dVar 0) (dC (.int 2))) (dLst (dCons (dC (.str "3")) (dCons (dC (.str "5")) dNil))))) (dT (dOp oEq (dOp oIx (dVar 0) (dC (.int 5))) (dC (.str "never"))))))) (dRet (dC (.int 6))) dNext) (dSeq (dIfS (dT (dOp oGt (dCB rLen (dCons (dVar 0) dNil)) (dC (.int 6)))) (dRet (dC (.int 7))) dNext) (dRet (dStill (dMakeO (k.cl "Game") (g_Game_init k) RX (dCons (dOp oIx (dVar 0) (dC (.int 1))) (dCons (dCB rInt (dCons (dOp oIx (dVar 0) (dC (.int 2))) dNil)) (dCons (dCB rInt (dCons (dOp oIx (dVar 0) (dC (.int 3))) dNil)) (dCons (dCB rInt (dCons (dOp oIx (dVar 0) (dC (.int 4))) dNil)) (dCons (dOp oIx (dVar 0) (dC (.int 5))) dNil)))))))))))))
/-- numbers: 0 low 1 high 2 number -/
def t_numbers (k : Kx) (RX : RXd) : TSd :=
  (dRet (dLc (iR2 (dVar 0) (dOp oAdd (dVar 1) (dC (.int 1)))) (gN 2) dYes (dCB rStr (dCons (dVar 2) dNil)) [2]))
/-- read: 0 text 1 words 2 due 3 index 4 some 5 word -/
def t_read (k : Kx) (RX : RXd) : TSd :=
  (dSeq (dSet 1 (dLc (iLst (dM1 oSplit (dVar 0) (dC (.str " ")))) (gN 5) (dT (dOp oNe (dVar 5) (dC (.str "")))) (dVar 5) [5])) (dSeq (dSet 2 (dLst (dCons (dLst (dCons (dC (.str "chase")) dNil)) (dCons (dC (.tup [(.str "path"), (.str "ring")])) (dCons (dCall (g_numbers k) RX (dCons (dC (.int 1)) (dCons (dC (.int 6)) dNil))) (dCons (dCall (g_numbers k) RX (dCons (dC (.int 1)) (dCons (dC (.int 5)) dNil))) (dCons (dCall (g_numbers k) RX (dCons (dC (.int 0)) (dCons (dC (.int 5)) dNil))) (dCons (dC (.tup [(.str "always"), (.str "never")])) dNil)))))))) (dSeq (dFor (iEnumL (dVar 2)) (gT 2 (gsCons (gN 3) (gsCons (gN 4) gsNil))) (dIfS ((dOr (dT (dOp oGe (dVar 3) (dCB rLen (dCons (dVar 1) dNil)))) (dT (dOp oNotIn (dOp oIx (dVar 1) (dVar 3)) (dVar 4))))) (dRzI k "BadWord" RX (dOp oAdd (dVar 3) (dC (.int 1)))) dNext)) (dSeq (dIfS (dT (dCall (g_is_untold k) RX (dCons (dOp oIx (dVar 1) (dC (.int 1))) (dCons (dCB rInt (dCons (dOp oIx (dVar 1) (dC (.int 2))) dNil)) (dCons (dOp oIx (dVar 1) (dC (.int 5))) dNil))))) (dRzI k "BadWord" RX (dCB rLen (dCons (dVar 2) dNil))) dNext) (dSeq (dIfS (dT (dOp oGt (dCB rLen (dCons (dVar 1) dNil)) (dCB rLen (dCons (dVar 2) dNil)))) (dRzI k "BadWord" RX (dOp oAdd (dCB rLen (dCons (dVar 2) dNil)) (dC (.int 1)))) dNext) (dRet (dStill (dMakeO (k.cl "Game") (g_Game_init k) RX (dCons (dOp oIx (dVar 1) (dC (.int 1))) (dCons (dCB rInt (dCons (dOp oIx (dVar 1) (dC (.int 2))) dNil)) (dCons (dCB rInt (dCons (dOp oIx (dVar 1) (dC (.int 3))) dNil)) (dCons (dCB rInt (dCons (dOp oIx (dVar 1) (dC (.int 4))) dNil)) (dCons (dOp oIx (dVar 1) (dC (.int 5))) dNil)))))))))))))
/-- _law_told: 0 _law_text 1 _law_told_here 2 e -/
def t_law_told_k12 (k : Kx) (RX : RXd) : TSd :=
  (dSeq (dSet 1 (dC .non)) (dSeq (dTryM k.K [(k.cl "BadWord", some 2, fun ea ed ex => (dSet 1 (dIf (dT (dIsEx k.K 2 ea ed ex (.ref (k.cl "ChaseError")))) (dXf k.K 2 ea ed ex) (dC (.str "another")))))] (fun RX1 => (dSet 1 (dCall (g_read k) RX1 (dCons (dVar 0) dNil)))) RX) (dRet (dVar 1))))
/-- _law_words_of: 0 _law_g -/
def t_law_words_of (k : Kx) (RX : RXd) : TSd :=
  (dRet (dLst (dCons (dC (.str "chase")) (dCons (dGet (dVar 0) (dC (.str "shape"))) (dCons (dCB rStr (dCons (dGet (dVar 0) (dC (.str "many"))) dNil)) (dCons (dCB rStr (dCons (dGet (dVar 0) (dC (.str "far"))) dNil)) (dCons (dCB rStr (dCons (dGet (dVar 0) (dC (.str "quick"))) dNil)) (dCons (dGet (dVar 0) (dC (.str "seen"))) dNil))))))))
/-- write: 0 game -/
def t_write (k : Kx) (RX : RXd) : TSd :=
  (dRet (dFstr [(dC (.str "chase ")), (dFmt (dFld k.K "form_of" (dVar 0))), (dC (.str " ")), (dFmt (dFld k.K "many" (dVar 0))), (dC (.str " ")), (dFmt (dFld k.K "far" (dVar 0))), (dC (.str " ")), (dFmt (dFld k.K "quick" (dVar 0))), (dC (.str " ")), (dFmt (dFld k.K "seen" (dVar 0)))]))
/-- law: 0 _law_script 1 _law_row 2 _law_odd 3 _law_turn 4 _law_g 5 _law_game 6 _law_words 7 _law_loose 8 _law_word 9 _law_k 10 _law_at 11 _law_turn_of -/
def t_law_k12 (k : Kx) (RX : RXd) : TSd :=
  (dSeq (dSetO 1 (dCallO (g_law_draws k) RX (dCons (dVar 0) dNil))) (dSeq (dSet 2 (dLst (dCons (dC (.str "0")) (dCons (dC (.str "3")) (dCons (dC (.str "6")) (dCons (dC (.str "7")) (dCons (dC (.str "01")) (dCons (dC (.str "chase")) (dCons (dC (.str "ring")) (dCons (dC (.str "path")) (dCons (dC (.str "always")) (dCons (dC (.str "never")) (dCons (dC (.str "-1")) (dCons (dC (.str "x")) (dCons (dC (.str "chase\n")) dNil))))))))))))))) (dSeq (dFor (iR1 (dC (.int 12))) (gN 3) (dSeq (dSet 4 (dCall1 1 (g_law_drawn k) (dCons (dC (.int 6)) (dCons (dC (.int 5)) dNil)))) (dSeq (dPar 5 6 (rD (dCall (g_law_made k) RX (dCons (dVar 4) dNil))) (rD (dCall (g_law_words_of k) RX (dCons (dVar 4) dNil)))) (dSeq (dIfS ((dOr (dT (dOp oNe (dCall (g_write k) RX (dCons (dVar 5) dNil)) (dM1 oJoin (dC (.str " ")) (dVar 6)))) (dNot (dT (dOp (oEqX k.K (k.cl "Game") (g_Game_eq k)) (dCall (g_read k) RX (dCons (dM1 oJoin (dC (.str " ")) (dVar 6)) dNil)) (dVar 5)))))) (dRet (dC (.bl false))) dNext) (dSeq (dSet 7 (dOp oMulS (dC (.str " ")) (dCall1 1 (g_law_pick k) (dCons (dC (.int 3)) dNil)))) (dSeq (dFor (iLst (dVar 6)) (gN 8) (dSet 7 (dOp oAdd (dOp oAdd (dVar 7) (dVar 8)) (dOp oMulS (dC (.str " ")) (dOp oAdd (dC (.int 1)) (dCall1 1 (g_law_pick k) (dCons (dC (.int 3)) dNil))))))) (dSeq (dIfS ((dOr (dNot (dT (dOp (oEqX k.K (k.cl "Game") (g_Game_eq k)) (dCall (g_read k) RX (dCons (dVar 7) dNil)) (dVar 5)))) (dNot (dT (dOp (oEqX k.K (k.cl "Game") (g_Game_eq k)) (dCall (g_read k) RX (dCons (dM1 oStripC (dVar 7) (dC (.str " "))) dNil)) (dVar 5)))))) (dRet (dC (.bl false))) dNext) (dSeq (dFor (iR1 (dOp oAdd (dC (.int 1)) (dCall1 1 (g_law_pick k) (dCons (dC (.int 2)) dNil)))) (gN 9) (dSeq (dPar 10 11 (rD (dCall1 1 (g_law_pick k) (dCons (dOp oAdd (dCB rLen (dCons (dVar 6) dNil)) (dC (.int 1))) dNil))) (rD (dCall1 1 (g_law_pick k) (dCons (dC (.int 4)) dNil)))) (dIfS (dT (dOp oEq (dVar 11) (dC (.int 0)))) (dSet 6 (dOp oAdd (dSlH (dVar 6) (dVar 10)) (dSlG (dVar 6) (pSome (dOp oAdd (dVar 10) (dC (.int 1)))) pNone))) (dIfS (dT (dOp oEq (dVar 11) (dC (.int 1)))) (dSet 6 (dOp oAdd (dOp oAdd (dSlH (dVar 6) (dVar 10)) (dOp oMul (dSlG (dVar 6) (pSome (dVar 10)) (pSome (dOp oAdd (dVar 10) (dC (.int 1))))) (dC (.int 2)))) (dSlG (dVar 6) (pSome (dOp oAdd (dVar 10) (dC (.int 1)))) pNone))) (dSet 6 (dOp oAdd (dOp oAdd (dSlH (dVar 6) (dVar 10)) (dLst (dCons (dOp oIx (dVar 2) (dCall1 1 (g_law_pick k) (dCons (dC (.int 13)) dNil))) dNil))) (dSlG (dVar 6) (pSome (dOp oSub (dOp oAdd (dVar 10) (dVar 11)) (dC (.int 2)))) pNone))))))) (dIfS (dT (dOp (oNeX k.K (k.cl "Game") (g_Game_eq k)) (dCall (g_law_told_k12 k) RX (dCons (dM1 oJoin (dC (.str " ")) (dVar 6)) dNil)) (dCall (g_law_due_k12 k) RX (dCons (dVar 6) dNil)))) (dRet (dC (.bl false))) dNext))))))))) (dRet (dAndV (dOp oEq (dCall (g_law_told_k12 k) RX (dCons (dC (.str "")) dNil)) (dC (.int 1))) (dOp oEq (dCall (g_law_told_k12 k) RX (dCons (dC (.str " ")) dNil)) (dC (.int 1))))))))
end DL

/-! text RK12 -/
set_option Elab.async false
set_option linter.all false
set_option maxRecDepth 100000
set_option maxHeartbeats 1000000
set_option exponentiation.threshold 1100000
namespace DL
open PySem PySem.Spec PyProof.Rows L2 RZ
/-- sizeOf_list_dec: one step of a reading's value; array_get_dec: all steps -/
local macro_rules | `(tactic| sizeOf_list_dec) => `(tactic| first
  | exact ev_c | exact ev_var rfl | exact eva_nil | exact evT_yes
  | apply ev_op | apply ev_un | apply ev_not | apply ev_and | apply ev_or | apply ev_chain
  | apply ev_cb | apply ev_call | apply eva_cons | apply ev_tup | apply ev_lst
  | apply evT_val | apply evT_and | apply evT_or | apply evT_not
  | (apply ev_ifI <;> array_get_dec <;> done) | (apply ev_ifS <;> array_get_dec <;> done)
  | exact rr_addI | exact rr_sub | exact rr_lt | exact rr_le | exact rr_gt | exact rr_ge | exact rr_eqI | exact rr_eqS | exact rr_neI | exact rr_neS | exact rr_is | exact rr_isnot | exact rr_eqB | exact rr_neB
  | apply rr_mul | apply rr_div | apply rr_mod | apply rr_pow | exact rr_ixL rfl | exact rr_ixT rfl | apply rr_inL | apply rr_inT | apply rr_notinL | apply rr_notinT
  | exact ru_neg | (intro _; sizeOf_list_dec)
  | exact rr_eq rfl | exact rr_ne rfl
  | exact rc_lenL | exact rc_lenT | exact rc_lenD | exact rc_int | exact rc_intB | exact rc_abs | exact rc_min | exact rc_max | exact rc_tuple | exact rc_list | exact rc_listT
  | array_mem_dec)
local macro_rules | `(tactic| array_get_dec) => `(tactic| repeat' sizeOf_list_dec)
theorem st_forG {ti : TId} {g : TGd} {tb : TSd} {Dd : EndsD} {ρ : En} (xs : List D) (hi : ∀ Qi : List D → En → Prop, Qi xs ρ → ti ρ Qi) (Pv : Nat → En → Prop) (h0 : Pv 0 ρ) (h : ∀ i d ρ, xs[i]? = some d → Pv i ρ → g d ρ fun ρ2 => tb { Dd with nx := Pv (i + 1), ct := Pv (i + 1), bk := Dd.nx } ρ2)
    (he : ∀ ρ, Pv xs.length ρ → Dd.nx ρ) : dFor ti g tb Dd ρ := hi _ ⟨Pv, h0, h, he⟩
theorem call_I {g : Gd} {RX : RXd} {t : TAd} {ρ : En} {Q : D → En → Prop} (h : t ρ fun ds ρ1 => g (ds.map .d) [] (fun r _ => retD Q ρ1 r) (fun x _ => RX x ρ1)) : dCall g RX t ρ Q := h
theorem r_numbers (k : Kx) : Rok 2 1 (g_numbers k) (t_numbers k) where
  len := by
    rintro qs π R RX ⟨ds, rfl, rfl, lo, hi, rfl, _⟩
    rfl
  run := by
    rintro qs π R RX ⟨ds, rfl, rfl, lo, hi, rfl, h1, h2, h3, h4, z⟩
    refine st_ret0 ?_ z
    refine ev_lcM numD (it_r2 (ev_var rfl) (ev_op (ev_var rfl) ev_c rr_addI) (by omega)) (Nat.le_of_ble_eq_true rfl) (fun o w => by cases w) (by rw [rangeD_len, sizeLine_eq]; omega) (fun d hd => ?_)
    obtain ⟨i, hi', rfl⟩ := rng_int hd
    refine ev_cb (xs := [.int (lo + i)]) (eva_cons (ev_var rfl) eva_nil) ?_
    refine fun Q q => ⟨?_, q⟩
    refine Nat.lt_of_le_of_lt (m := 12) ?_ (by decide)
    have : (lo + (i : Int)).natAbs < 2 ^ 12 := by omega
    by_cases z : (lo + (i : Int)).natAbs = 0
    · rw [z]; decide
    · exact Nat.le_of_lt_succ ((Nat.log2_lt z).mpr (Nat.lt_trans this (by decide)))
theorem cl_numbers {k : Kx} {lo hi : Int} (h : -1000 ≤ lo ∧ lo ≤ 1000 ∧ -1000 ≤ hi ∧ hi ≤ 1000) : Cl (g_numbers k) [.int lo, .int hi] (.lst ((rangeD lo (hi + 1 - lo).toNat).map numD)) := fun R X z => ⟨_, rfl, rfl, lo, hi, rfl, h.1, h.2.1, h.2.2.1, h.2.2.2, z⟩
theorem in_strs (w : Str) (l : List Str) : inD (.str w) (l.map .str) = l.contains w := by
  unfold inD
  induction l with
  | nil => rfl
  | cons x r ih =>
    rw [List.map_cons, List.any_cons, List.contains_cons, ih]
    congr 1
    first
      | rfl
      | (show decide (x = w) = (w == x); rw [Bool.eq_iff_iff]; simp; exact eq_comm)
      | (show decide (w = x) = (w == x); rw [Bool.eq_iff_iff]; simp)
theorem flat_strs (l : List Str) : (l.map D.str).all flatD = true := by rw [List.all_map]; exact List.all_eq_true.mpr fun _ _ => rfl
theorem readW_bad {ws : List Str} {i : Nat} (hi : i < 6) (h : ∀ j, j < i → fineAt ws j = true) (hb : fineAt ws i = false) : readW ws = .bad (i + 1) := by
  have : (List.range 6).find? (fun k => !fineAt ws k) = some i := by
    rw [List.find?_range_eq_some]
    exact ⟨by rw [hb]; rfl, List.mem_range.mpr hi, fun j hj => by rw [h j hj]; rfl⟩
  unfold readW
  rw [this]
theorem readW_fine {ws : List Str} (h : ∀ j, j < 6 → fineAt ws j = true) : readW ws = if untoldW ws = true then .bad 6 else if 6 < ws.length then .bad 7 else .ok (gameW ws) := by
  have : (List.range 6).find? (fun k => !fineAt ws k) = none := by
    rw [List.find?_range_eq_none]
    intro j hj
    rw [h j hj]
    rfl
  unfold readW
  rw [this]
theorem fine_mem {ws : List Str} {i : Nat} (h : fineAt ws i = true) : i < ws.length ∧ wAt ws i ∈ due12.getD i [] := by
  unfold fineAt at h
  rw [Bool.and_eq_true] at h
  exact ⟨of_decide_eq_true h.1, List.contains_iff_mem.mp h.2⟩
theorem wat_get {ws : List Str} {i : Nat} (h : i < ws.length) : (ws.map D.str)[i]? = some (.str (wAt ws i)) := by
  rw [List.getElem?_map, List.getElem?_eq_getElem h]
  unfold wAt
  rw [List.getD_eq_getElem?_getD, List.getElem?_eq_getElem h]
  rfl
theorem digs_int : ∀ w ∈ digS, PySem.intText? w = some (numW w) ∧ w.length ≤ 640 := by decide +kernel
theorem rc_intS {a : Str} {n : Int} (h : PySem.intText? a = some n) (hl : a.length ≤ 640) : RC rInt [.str a] (.int n) := fun Q q => ⟨n, h, hl, q⟩
theorem dig_at {ws : List Str} (h : ∀ j, j < 6 → fineAt ws j = true) {i : Nat} (hi : i = 2 ∨ i = 3 ∨ i = 4) : RC rInt [.str (wAt ws i)] (.int (numW (wAt ws i))) := by
  have hm : wAt ws i ∈ digS := by
    rcases hi with rfl | rfl | rfl
    · have := (fine_mem (h 2 (by decide))).2
      exact (by decide +kernel : ∀ w ∈ due12.getD 2 [], w ∈ digS) _ this
    · have := (fine_mem (h 3 (by decide))).2
      exact (by decide +kernel : ∀ w ∈ due12.getD 3 [], w ∈ digS) _ this
    · have := (fine_mem (h 4 (by decide))).2
      exact (by decide +kernel : ∀ w ∈ due12.getD 4 [], w ∈ digS) _ this
  obtain ⟨h1, h2⟩ := digs_int _ hm
  exact rc_intS h1 h2
theorem ev_wat {ws : List Str} {j : Nat} {ρ : En} {i : Nat} (h0 : ρ.sl[j]? = some (.d (.lst (ws.map .str)))) (hi : i < ws.length) {n : Int} (hn : n = (i : Int)) : Ev (dOp oIx (dVar j) (dC (.int n))) ρ (.str (wAt ws i)) ρ := by
  subst hn
  exact ev_op (ev_var h0) ev_c (rr_ixL (at_in (by omega) (by rw [Int.toNat_natCast]; exact wat_get hi)))
theorem two12 : ∀ w ∈ due12.getD 2 [], 1 ≤ numW w ∧ numW w ≤ 6 ∧ (decide (1 < numW w) && decide (numW w % 2 = 1)) = (["3", "5"] : List Str).contains w := by decide +kernel
theorem three12 : ∀ w ∈ due12.getD 3 [], 1 ≤ numW w ∧ numW w ≤ 5 := by decide +kernel
theorem four12 : ∀ w ∈ due12.getD 4 [], 0 ≤ numW w ∧ numW w ≤ 5 := by decide +kernel
theorem one12 : ∀ w ∈ due12.getD 1 [], shapeS (decide (w = "ring")) = w := by decide +kernel
theorem five12 : ∀ w ∈ due12.getD 5 [], sightS (decide (w = "always")) = w ∧ decide (w = "always") = !decide (w = "never") := by decide +kernel
theorem gameW_ok {ws : List Str} (h : ∀ j, j < 6 → fineAt ws j = true) (hu : untoldW ws = false) : (gameW ws).Ok := by
  obtain ⟨a1, a2, _⟩ := two12 _ (fine_mem (h 2 (by decide))).2
  obtain ⟨b1, b2⟩ := three12 _ (fine_mem (h 3 (by decide))).2
  obtain ⟨c1, c2⟩ := four12 _ (fine_mem (h 4 (by decide))).2
  obtain ⟨d1, d2⟩ := five12 _ (fine_mem (h 5 (by decide))).2
  refine ⟨a1, a2, b1, b2, c1, c2, fun ⟨e1, e2, e3, e4⟩ => ?_⟩
  unfold untoldW at hu
  have e5 : decide (wAt ws 5 = "never") = true := by
    have : decide (wAt ws 5 = "always") = false := e2
    rw [this] at d2
    cases q : decide (wAt ws 5 = "never") with
    | true => rfl
    | false => rw [q] at d2; cases d2
  have e1' : decide (wAt ws 1 = "ring") = true := e1
  have e3' : decide (1 < numW (wAt ws 2)) = true := decide_eq_true e3
  have e4' : decide (numW (wAt ws 2) % 2 = 1) = true := decide_eq_true e4
  rw [e1', e5, e3', e4'] at hu
  cases hu
/-! the readings of words -/
theorem ts_dig : ∀ i ∈ [1, 2, 3, 4, 5, 6, 0], (((toString ((i : Nat) : Int) : String)) : Str) = digS.getD i "" := by decide +kernel
def L12 : List D := [.lst [.str "chase"], .tup [.str "path", .str "ring"], .lst ((rangeD 1 (6 + 1 - 1 : Int).toNat).map numD), .lst ((rangeD 1 (5 + 1 - 1 : Int).toNat).map numD), .lst ((rangeD 0 (5 + 1 - 0 : Int).toNat).map numD), .tup [.str "always", .str "never"]]
theorem nums1 : (rangeD 1 (6 + 1 - 1 : Int).toNat).map numD = (["1", "2", "3", "4", "5", "6"] : List Str).map .str := by
  show [D.str (toString (1 + ((0 : Nat) : Int))), .str (toString (1 + ((1 : Nat) : Int))), .str (toString (1 + ((2 : Nat) : Int))), .str (toString (1 + ((3 : Nat) : Int))), .str (toString (1 + ((4 : Nat) : Int))), .str (toString (1 + ((5 : Nat) : Int)))] = _
  rfl
theorem nums2 : (rangeD 1 (5 + 1 - 1 : Int).toNat).map numD = (["1", "2", "3", "4", "5"] : List Str).map .str := by
  show [D.str (toString (1 + ((0 : Nat) : Int))), .str (toString (1 + ((1 : Nat) : Int))), .str (toString (1 + ((2 : Nat) : Int))), .str (toString (1 + ((3 : Nat) : Int))), .str (toString (1 + ((4 : Nat) : Int)))] = _
  rfl
theorem nums3 : (rangeD 0 (5 + 1 - 0 : Int).toNat).map numD = (["0", "1", "2", "3", "4", "5"] : List Str).map .str := by
  show [D.str (toString (0 + ((0 : Nat) : Int))), .str (toString (0 + ((1 : Nat) : Int))), .str (toString (0 + ((2 : Nat) : Int))), .str (toString (0 + ((3 : Nat) : Int))), .str (toString (0 + ((4 : Nat) : Int))), .str (toString (0 + ((5 : Nat) : Int)))] = _
  rfl
theorem L12_at {i : Nat} {d : D} (h : L12[i]? = some d) : i < 6 ∧ (d = .lst ((due12.getD i []).map .str) ∨ d = .tup ((due12.getD i []).map .str)) := by
  unfold L12 at h
  rw [nums1, nums2, nums3] at h
  match i, h with
  | 0, h => cases h; exact ⟨by decide, .inl rfl⟩
  | 1, h => cases h; exact ⟨by decide, .inr rfl⟩
  | 2, h => cases h; exact ⟨by decide, .inl rfl⟩
  | 3, h => cases h; exact ⟨by decide, .inl rfl⟩
  | 4, h => cases h; exact ⟨by decide, .inl rfl⟩
  | 5, h => cases h; exact ⟨by decide, .inr rfl⟩
theorem okIn_strs (w : Str) (l : List Str) : okIn (.str w) (l.map .str) = true := by
  unfold okIn
  rw [flat_strs]
  rfl
theorem cl_untold {k : Kx} {s t : Str} {c : Int} : Cl (g_is_untold k) [.str s, .int c, .str t] (.bl (untoldB s c t)) := fun R X z => ⟨_, rfl, rfl, s, c, t, rfl, z⟩
theorem made12 {k : Kx} {RX : RXd} {ws : List Str} {j : Nat} {ρ : En} (h0 : ρ.sl[j]? = some (.d (.lst (ws.map .str)))) (hf : ∀ i, i < 6 → fineAt ws i = true) (hu : untoldW ws = false) :
    Ev (dStill (dMakeO (k.cl "Game") (g_Game_init k) RX (dCons (dOp oIx (dVar j) (dC (.int 1))) (dCons (dCB rInt (dCons (dOp oIx (dVar j) (dC (.int 2))) dNil)) (dCons (dCB rInt (dCons (dOp oIx (dVar j) (dC (.int 3))) dNil)) (dCons (dCB rInt (dCons (dOp oIx (dVar j) (dC (.int 4))) dNil)) (dCons (dOp oIx (dVar j) (dC (.int 5))) dNil))))))) ρ (gameD k (gameW ws)) ρ := by
  have l6 : ∀ i, i < 6 → i < ws.length := fun i hi => (fine_mem (hf i hi)).1
  have e1 := one12 _ (fine_mem (hf 1 (by decide))).2
  have e5 := (five12 _ (fine_mem (hf 5 (by decide))).2).1
  refine ev_game (g := gameW ws) (eva_cons (ev_eq0 (ev_wat h0 (l6 1 (by decide)) rfl) (congrArg D.str e1.symm)) (eva_cons (ev_cb (eva_cons (ev_wat h0 (l6 2 (by decide)) rfl) eva_nil) (dig_at hf (.inl rfl))) (eva_cons (ev_cb (eva_cons (ev_wat h0 (l6 3 (by decide)) rfl) eva_nil) (dig_at hf (.inr (.inl rfl))))
    (eva_cons (ev_cb (eva_cons (ev_wat h0 (l6 4 (by decide)) rfl) eva_nil) (dig_at hf (.inr (.inr rfl)))) (eva_cons (ev_eq0 (ev_wat h0 (l6 5 (by decide)) rfl) (congrArg D.str e5.symm)) eva_nil))))) (gameW_ok hf hu)
theorem r_read (k : Kx) : Rok 1 5 (g_read k) (t_read k) where
  len := by
    rintro qs π R RX ⟨ds, rfl, rfl, t, rfl, _⟩
    rfl
  run := by
    rintro qs π R RX ⟨ds, rfl, rfl, t, rfl, tl, wl, z⟩
    show t_read k _ _ ⟨[.d (.str t), .no, .no, .no, .no, .no], []⟩
    refine st_seq (st_set0 (x := .lst ((TX.toks t).map .str)) ?_ ?_)
    · have sl := split_le t TX.sp
      refine ev_eq0 (ev_lc (xs := (Txt.split t TX.sp).map .str) (fun d => match d with
        | .str w => !decide (w = "")
        | _ => false) (fun d => d) (it_lst ?_) (Nat.le_of_ble_eq_true rfl) (fun o w => by cases w) (by rw [List.length_map, sizeLine_eq]; omega) (fun d hd => ?_) (fun d hd _ => ev_var rfl)) ?_
      · intro Q q
        refine ev_var rfl _ ⟨⟨_, rfl⟩, ?_⟩
        refine ⟨by decide +kernel, by rw [sizeLine_eq]; omega, ?_⟩
        rw [TX.sp_eq]
        exact q
      · obtain ⟨w, _, rfl⟩ := List.mem_map.mp hd
        exact evT_val (ev_op (ev_var rfl) ev_c rr_neS)
      · unfold TX.toks
        rw [List.filter_map, List.map_id']
        rfl
    generalize TX.toks t = ws at *
    dsimp only
    show dSeq _ _ _ ⟨[.d (.str t), .d (.lst (ws.map .str)), .no, .no, .no, .no], []⟩
    refine st_seq (st_set0 (x := .lst L12) ?_ ?_)
    · have s1 : ∀ x : D, [x].length ≤ sizeLine := fun x => six_line (Nat.le_of_ble_eq_true rfl)
      exact ev_lst (eva_cons (ev_lst (eva_cons ev_c eva_nil) (s1 _)) (eva_cons ev_c (eva_cons (ev_call0 (eva_cons ev_c (eva_cons ev_c eva_nil)) (cl_numbers (by decide))) (eva_cons (ev_call0 (eva_cons ev_c (eva_cons ev_c eva_nil)) (cl_numbers (by decide))) (eva_cons (ev_call0 (eva_cons ev_c (eva_cons ev_c eva_nil)) (cl_numbers (by decide))) (eva_cons ev_c eva_nil)))))) (six_line (Nat.le_of_ble_eq_true rfl))
    dsimp only
    have wl' : (ws.map D.str).length = ws.length := List.length_map ..
    refine st_seq (st_forG (enumD L12) (fun Qi q => (ev_var rfl) _ q) (fun i ρ => (∀ j, j < i → fineAt ws j = true) ∧ ∃ d e, ρ = ⟨[.d (.str t), .d (.lst (ws.map .str)), .d (.lst L12), d, e, .no], []⟩) ⟨fun j hj => absurd hj (by omega), _, _, rfl⟩ ?_ ?_)
    · rintro i d ρ hd ⟨hf, s3, s4, rfl⟩
      unfold enumD at hd
      rw [List.getElem?_mapIdx] at hd
      cases e : L12[i]? with
      | none => rw [e] at hd; cases hd
      | some y =>
        rw [e] at hd
        cases hd
        obtain ⟨i6, hy⟩ := L12_at e
        refine ⟨rfl, gs_two ?_⟩
        show dIfS _ _ _ _ ⟨[.d (.str t), .d (.lst (ws.map .str)), .d (.lst L12), .d (.int (i : Int)), .d y, .no], []⟩
        refine st_if0 (b := !fineAt ws i) ?_ (fun w => ?_) (fun w => ?_)
        · refine evT_eq0 (b := decide (((ws.map D.str).length : Int) ≤ (i : Int)) || !((due12.getD i []).contains (wAt ws i))) (evT_or (evT_val (ev_op (ev_var rfl) (ev_cb (eva_cons (ev_var rfl) eva_nil) rc_lenL) rr_ge)) (fun w => ?_)) ?_
          · have hi : i < ws.length := by
              have := of_decide_eq_false w
              rw [wl'] at this
              omega
            have ex : Ev (dOp oIx (dVar 1) (dVar 3)) ⟨[.d (.str t), .d (.lst (ws.map .str)), .d (.lst L12), .d (.int (i : Int)), .d y, .no], []⟩ (.str (wAt ws i)) _ := ev_op (ev_var rfl) (ev_var rfl) (rr_ixL (at_in (by omega) (by rw [Int.toNat_natCast]; exact wat_get hi)))
            rcases hy with rfl | rfl
            · exact evT_val (ev_eq0 (ev_op ex (ev_var rfl) (rr_notinL (okIn_strs _ _))) (by rw [in_strs]))
            · exact evT_val (ev_eq0 (ev_op ex (ev_var rfl) (rr_notinT ⟨rfl, flat_strs _⟩)) (by rw [in_strs]))
          · unfold fineAt
            rw [wl']
            by_cases q : i < ws.length
            · rw [decide_eq_true q, decide_eq_false (by omega)]
              simp
            · rw [decide_eq_false q, decide_eq_true (by omega)]
              simp
        · have hb : fineAt ws i = false := by simpa using w
          rw [readW_bad i6 hf hb] at z
          refine ⟨z.1, (ev_op (ev_var rfl) ev_c rr_addI) _ ⟨.inr ⟨_, rfl, ?_⟩, ?_⟩⟩
          · refine Nat.lt_of_le_of_lt (m := 12) ?_ (by decide)
            exact Nat.le_of_lt_succ ((Nat.log2_lt (by omega)).mpr (Nat.lt_of_lt_of_le (m := 8) (by omega) (by decide)))
          · have := z.2
            rw [show ((i : Int) + 1) = ((i + 1 : Nat) : Int) by omega]
            exact this
        · have hb : fineAt ws i = true := by simpa using w
          refine st_next ⟨fun j hj => ?_, _, _, rfl⟩
          by_cases q : j = i
          · rw [q]; exact hb
          · exact hf j (by omega)
    · rintro ρ ⟨hf, s3, s4, rfl⟩
      have hf : ∀ j, j < 6 → fineAt ws j = true := hf
      rw [readW_fine hf] at z
      have l6 : ∀ i, i < 6 → i < ws.length := fun i hi => (fine_mem (hf i hi)).1
      dsimp only
      show dSeq _ _ _ ⟨[.d (.str t), .d (.lst (ws.map .str)), .d (.lst L12), s3, s4, .no], []⟩
      have el : Ev (dCB rLen (dCons (dVar 2) dNil)) ⟨[.d (.str t), .d (.lst (ws.map .str)), .d (.lst L12), s3, s4, .no], []⟩ (.int ((6 : Nat) : Int)) ⟨[.d (.str t), .d (.lst (ws.map .str)), .d (.lst L12), s3, s4, .no], []⟩ := ev_eq0 (ev_cb (xs := [.lst L12]) (eva_cons (ev_var rfl) eva_nil) rc_lenL) rfl
      refine st_seq (st_if0 (b := untoldW ws) (evT_val (ev_call0 (xs := [.str (wAt ws 1), .int (numW (wAt ws 2)), .str (wAt ws 5)]) (eva_cons (ev_wat rfl (l6 1 (by decide)) rfl) (eva_cons (ev_cb (eva_cons (ev_wat rfl (l6 2 (by decide)) rfl) eva_nil) (dig_at hf (.inl rfl))) (eva_cons (ev_wat rfl (l6 5 (by decide)) rfl) eva_nil))) cl_untold)) (fun w => ?_) (fun w => ?_))
      · rw [if_pos w] at z
        exact ⟨z.1, el _ ⟨.inr ⟨_, rfl, by decide⟩, z.2⟩⟩
      · rw [if_neg (by rw [w]; decide)] at z
        refine st_next ?_
        dsimp only
        refine st_seq (st_if0 (b := decide ((6 : Int) < ((ws.map D.str).length : Int))) (evT_val (ev_op (ev_cb (eva_cons (ev_var rfl) eva_nil) rc_lenL) (ev_cb (eva_cons (ev_var rfl) eva_nil) rc_lenL) rr_gt)) (fun w2 => ?_) (fun w2 => ?_))
        · rw [if_pos (by have := of_decide_eq_true w2; rw [wl'] at this; omega)] at z
          exact ⟨z.1, (ev_op el ev_c rr_addI) _ ⟨.inr ⟨_, rfl, by decide⟩, z.2⟩⟩
        · rw [if_neg (by have := of_decide_eq_false w2; rw [wl'] at this; omega)] at z
          refine st_next ?_
          dsimp only
          exact st_ret0 (made12 rfl hf w) z
/-! due, told, write -/
def DU12 : List D := due12.map fun l => .lst (l.map .str)
theorem pad_at (ws : List Str) {i : Nat} (hi : i < 6) : ((ws.map D.str) ++ (List.replicate (7 : Int).toNat [D.str ""]).flatten)[i]? = some (.str (wAt ws i)) := by
  by_cases q : i < ws.length
  · rw [List.getElem?_append_left (by rw [List.length_map]; exact q)]
    exact wat_get q
  · rw [List.getElem?_append_right (by rw [List.length_map]; omega), List.length_map]
    have e1 : wAt ws i = "" := by
      unfold wAt
      rw [List.getD_eq_getElem?_getD, List.getElem?_eq_none (by omega)]
      rfl
    rw [e1]
    have e2 : (List.replicate (7 : Int).toNat [D.str ""]).flatten = List.replicate 7 (.str "") := rfl
    rw [e2, List.getElem?_replicate, if_pos (by omega)]
theorem no_empty : ∀ i, i < 6 → (due12.getD i []).contains ((("" : Str))) = false := by decide +kernel
theorem r_law_due_k12 (k : Kx) : Rok 1 2 (g_law_due_k12 k) (t_law_due_k12 k) where
  len := by
    rintro qs π R RX ⟨ds, rfl, rfl, ws, rfl, _⟩
    rfl
  run := by
    rintro qs π R RX ⟨ds, rfl, rfl, ws, rfl, wl, wne, z⟩
    show t_law_due_k12 k _ _ ⟨[.d (.lst (ws.map .str)), .no, .no], []⟩
    have sz : ∀ {l : List D}, l.length ≤ 16 → l.length ≤ sizeLine := six_line
    refine st_seq (st_set0 (x := .lst (DU12.take 4)) (ev_lst (eva_cons (ev_lst (eva_cons ev_c eva_nil) (sz (Nat.le_of_ble_eq_true rfl))) (eva_cons (ev_lst (eva_cons ev_c (eva_cons ev_c eva_nil)) (sz (Nat.le_of_ble_eq_true rfl))) (eva_cons (ev_lst (eva_cons ev_c (eva_cons ev_c (eva_cons ev_c (eva_cons ev_c (eva_cons ev_c (eva_cons ev_c eva_nil)))))) (sz (Nat.le_of_ble_eq_true rfl))) (eva_cons (ev_lst (eva_cons ev_c (eva_cons ev_c (eva_cons ev_c (eva_cons ev_c (eva_cons ev_c eva_nil))))) (sz (Nat.le_of_ble_eq_true rfl))) eva_nil)))) (sz (Nat.le_of_ble_eq_true rfl))) ?_)
    dsimp only
    show dSeq _ _ _ ⟨[.d (.lst (ws.map .str)), .d (.lst (DU12.take 4)), .no], []⟩
    refine st_seq (st_set0 (x := .lst DU12) (ev_op (y := .lst (DU12.drop 4)) (ev_var rfl) (ev_lst (eva_cons (ev_lst (eva_cons ev_c (eva_cons ev_c (eva_cons ev_c (eva_cons ev_c (eva_cons ev_c (eva_cons ev_c eva_nil)))))) (sz (Nat.le_of_ble_eq_true rfl))) (eva_cons (ev_lst (eva_cons ev_c (eva_cons ev_c eva_nil)) (sz (Nat.le_of_ble_eq_true rfl))) eva_nil)) (sz (Nat.le_of_ble_eq_true rfl))) (rr_addL (sz (l := DU12) (Nat.le_of_ble_eq_true rfl)))) ?_)
    dsimp only
    refine st_seq (st_for (rangeD 0 (6 : Int).toNat) (it_r1 ev_c (by decide)) (fun i ρ => (∀ j, j < i → fineAt ws j = true) ∧ ∃ d, ρ = ⟨[.d (.lst (ws.map .str)), .d (.lst DU12), d], []⟩) ⟨fun j hj => absurd hj (by omega), _, rfl⟩ ?_ ?_)
    · rintro i d ρ hd ⟨hf, s2, rfl⟩
      have i6 : i < 6 := by
        have := (List.getElem?_eq_some_iff.mp hd).1
        rw [rangeD_len] at this
        exact this
      have ee := hd.symm.trans (rangeD_get (lo := 0) (n := (6 : Int).toNat) i6)
      cases ee
      show dIfS _ _ _ _ ⟨[.d (.lst (ws.map .str)), .d (.lst DU12), .d (.int (0 + (i : Int)))], []⟩
      rw [Int.zero_add]
      refine st_if0 (b := !fineAt ws i) ?_ (fun w => ?_) (fun w => ?_)
      · refine evT_eq0 (b := !((due12.getD i []).contains (wAt ws i))) (evT_val (ev_eq0 (ev_op (x := .str (wAt ws i)) (y := .lst ((due12.getD i []).map .str)) (ev_op (ev_op (ev_var rfl) (ev_op (ev_lst (eva_cons ev_c eva_nil) (sz (Nat.le_of_ble_eq_true rfl))) ev_c (rr_rep (by decide) (by decide) (by decide))) (rr_addL ?_)) (ev_var rfl) (rr_ixL (at_in (by omega) (by rw [Int.toNat_natCast]; exact pad_at ws i6)))) (ev_op (ev_var rfl) (ev_var rfl) (rr_ixL (at_in (by omega) ?_))) (rr_notinL (okIn_strs _ _))) (by rw [in_strs]))) ?_
        · rw [List.length_map, sizeLine_eq]
          show ws.length + 7 ≤ 16777216
          omega
        · rw [Int.toNat_natCast]
          unfold DU12
          rw [List.getElem?_map, List.getD_eq_getElem?_getD, List.getElem?_eq_getElem (show i < due12.length from i6)]
          rfl
        · unfold fineAt
          by_cases q : i < ws.length
          · rw [decide_eq_true q, Bool.true_and]
          · rw [decide_eq_false q, Bool.false_and]
            have e1 : wAt ws i = "" := by
              unfold wAt
              rw [List.getD_eq_getElem?_getD, List.getElem?_eq_none (by omega)]
              rfl
            rw [e1, no_empty i i6]
      · have hb : fineAt ws i = false := by simpa using w
        rw [readW_bad i6 hf hb] at z
        refine st_ret0 (x := .int ((i + 1 : Nat) : Int)) (ev_eq0 (ev_op (ev_var rfl) ev_c rr_addI) rfl) z
      · have hb : fineAt ws i = true := by simpa using w
        refine st_next ⟨fun j hj => ?_, _, rfl⟩
        by_cases q : j = i
        · rw [q]; exact hb
        · exact hf j (by omega)
    · rintro ρ ⟨hf, s2, rfl⟩
      have hf : ∀ j, j < 6 → fineAt ws j = true := hf
      rw [readW_fine hf] at z
      have l6 : ∀ i, i < 6 → i < ws.length := fun i hi => (fine_mem (hf i hi)).1
      dsimp only
      show dSeq _ _ _ ⟨[.d (.lst (ws.map .str)), .d (.lst DU12), s2], []⟩
      refine st_seq (st_if0 (b := untoldW ws) ?_ (fun w => ?_) (fun w => ?_))
      · refine evT_eq0 (b := decide (wAt ws 1 = "ring") && ((["3", "5"] : List Str).contains (wAt ws 2) && decide (wAt ws 5 = "never"))) (evT_and (evT_val (ev_op (ev_wat rfl (l6 1 (by decide)) rfl) ev_c rr_eqS)) (fun _ => evT_and (evT_val (ev_eq0 (ev_op (ev_wat rfl (l6 2 (by decide)) rfl) (ev_lst (xs := (["3", "5"] : List Str).map .str) (eva_cons ev_c (eva_cons ev_c eva_nil)) (sz (Nat.le_of_ble_eq_true rfl))) (rr_inL (okIn_strs _ _))) (by rw [in_strs]))) (fun _ => evT_val (ev_op (ev_wat rfl (l6 5 (by decide)) rfl) ev_c rr_eqS)))) ?_
        obtain ⟨_, _, e3⟩ := two12 _ (fine_mem (hf 2 (by decide))).2
        unfold untoldW
        rw [← e3]
        cases decide (wAt ws 1 = "ring") <;> cases decide (wAt ws 5 = "never") <;> simp
      · rw [if_pos w] at z
        exact st_ret0 ev_c z
      · rw [if_neg (by rw [w]; decide)] at z
        refine st_next ?_
        dsimp only
        have wl' : (ws.map D.str).length = ws.length := List.length_map ..
        refine st_seq (st_if0 (b := decide ((6 : Int) < ((ws.map D.str).length : Int))) (evT_val (ev_op (ev_cb (eva_cons (ev_var rfl) eva_nil) rc_lenL) ev_c rr_gt)) (fun w2 => ?_) (fun w2 => ?_))
        · rw [if_pos (by have := of_decide_eq_true w2; rw [wl'] at this; omega)] at z
          exact st_ret0 ev_c z
        · rw [if_neg (by have := of_decide_eq_false w2; rw [wl'] at this; omega)] at z
          refine st_next ?_
          dsimp only
          exact st_ret0 (made12 rfl hf w) z
/-! told and write -/
theorem ev_isEx {K : PySem.W.Frag} {n : Nat} {a : Addr} {d : Option Addr} {e : Exn} {c : Value} {ρ : En} {b : Bool} (h : ρ.sl[n]? = some (pinSl a d e)) (hc : ExcC K e.C) (hk : PySem.W.kitOne K (.ref e.C) c = some b) : Ev (dIsEx K n a d e c) ρ (.bl b) ρ := fun Q q => ⟨h, hc, b, hk, q⟩
theorem ev_xf {K : PySem.W.Frag} {n : Nat} {a : Addr} {d : Option Addr} {e : Exn} {ρ : En} {y : D} (h : ρ.sl[n]? = some (pinSl a d e)) (hc : XfC K e.C) (hi : PySem.W.findIn K (.ref e.C) "index" = some none) (hy : e.idx = some y) : Ev (dXf K n a d e) ρ y ρ := fun Q q => ⟨h, hc, hi, y, hy, q⟩
theorem r_law_told_k12 (k : Kx) (hx : PySem.W.exmOne k.K (.ref (k.cl "BadWord")) (.ref (k.cl "BadWord")) = some true) (hk : PySem.W.kitOne k.K (.ref (k.cl "BadWord")) (.ref (k.cl "ChaseError")) = some true) (hc : ExcC k.K (k.cl "BadWord")) (hf : XfC k.K (k.cl "BadWord"))
    (hi : PySem.W.findIn k.K (.ref (k.cl "BadWord")) "index" = some none) (on : k.ex = true) : Rok 1 2 (g_law_told_k12 k) (t_law_told_k12 k) where
  len := by
    rintro qs π R RX ⟨ds, rfl, rfl, t, rfl, _⟩
    rfl
  run := by
    rintro qs π R RX ⟨ds, rfl, rfl, t, rfl, tl, wl, z⟩
    refine st_seq (st_set0 ev_c ?_)
    dsimp only
    refine st_seq ?_
    unfold dTryM
    refine set_I (call_I ((eva_cons (ev_var rfl) eva_nil) _ ⟨_, rfl, rfl, t, rfl, tl, wl, ?_⟩))
    cases e : readW (TX.toks t) with
    | ok g =>
      rw [e] at z
      dsimp only [retD]
      exact st_ret0 (ev_var rfl) z
    | bad i =>
      rw [e] at z
      refine ⟨on, rx_takeAs hx fun a d ok => ?_⟩
      refine st_set0 (x := .int (i : Int)) (ev_if0 (b := true) (evT_val (ev_isEx rfl hc hk)) (fun _ => ev_xf rfl hf hi rfl) (fun w => by cases w)) ?_
      dsimp only [EndsD.gone]
      exact (st_ret0 (ev_var rfl) z : dRet (dVar 1) { nx := fun ρ => R (.d .non) ρ.pa, rt := fun r ρ => R r ρ.pa } ⟨[.d (.str t), .d (.int (i : Int)), .no], []⟩)
theorem rc_str {i : Int} (h : i.natAbs.log2 < 1920) : RC rStr [.int i] (.str (toString i)) := fun Q q => ⟨h, q⟩
theorem log6 {i : Int} (h0 : 0 ≤ i) (h6 : i ≤ 6) : i.natAbs.log2 < 1920 := by
  refine Nat.lt_of_le_of_lt (m := 12) ?_ (by decide)
  by_cases z : i.natAbs = 0
  · rw [z]; decide
  · exact Nat.le_of_lt_succ ((Nat.log2_lt z).mpr (Nat.lt_of_lt_of_le (m := 8) (by omega) (by decide)))
theorem r_law_words_of (k : Kx) : Rok 1 0 (g_law_words_of k) (t_law_words_of k) where
  len := by
    rintro qs π R RX ⟨ds, rfl, rfl, g, rfl, _⟩
    rfl
  run := by
    rintro qs π R RX ⟨ds, rfl, rfl, g, rfl, o, z⟩
    have h1 := o.m1
    have h2 := o.m6
    have h3 := o.f1
    have h4 := o.f5
    have h5 := o.q0
    have h6 := o.q5
    refine st_ret0 ?_ z
    exact ev_lst (eva_cons ev_c (eva_cons (ev_get (ev_var rfl) ev_c rfl rfl) (eva_cons (ev_cb (eva_cons (ev_get (v := .int g.many) (ev_var rfl) ev_c rfl rfl) eva_nil) (rc_str (log6 (by omega) (by omega)))) (eva_cons (ev_cb (eva_cons (ev_get (v := .int g.far) (ev_var rfl) ev_c rfl rfl) eva_nil) (rc_str (log6 (by omega) (by omega))))
      (eva_cons (ev_cb (eva_cons (ev_get (v := .int g.quick) (ev_var rfl) ev_c rfl rfl) eva_nil) (rc_str (log6 (by omega) (by omega)))) (eva_cons (ev_get (ev_var rfl) ev_c rfl rfl) eva_nil)))))) (six_line (Nat.le_of_ble_eq_true rfl))
theorem cl_words_of {k : Kx} {g : Gm} (o : g.Ok) : Cl (g_law_words_of k) [.dic (lawGD g)] (.lst ((wordsG g).map .str)) := fun R X z => ⟨_, rfl, rfl, g, rfl, o, z⟩
theorem dig6 {i : Int} (h0 : 0 ≤ i) (h6 : i ≤ 6) : ((toString i : String) : Str) ∈ digS := by
  obtain ⟨n, rfl⟩ : ∃ n : Nat, i = n := ⟨i.toNat, by omega⟩
  have : n = 0 ∨ n = 1 ∨ n = 2 ∨ n = 3 ∨ n = 4 ∨ n = 5 ∨ n = 6 := by omega
  rcases this with rfl | rfl | rfl | rfl | rfl | rfl | rfl <;> decide +kernel
theorem dig_len : ∀ w ∈ digS, w.length = 1 := by decide +kernel
theorem len_app (a b : Str) : (a ++ b).length = a.length + b.length := by
  show (a.cps ++ b.cps).size = _
  rw [Array.size_append]
  rfl
theorem js_step {t : TEd} {ts : List TEd} {acc y : Str} {ρ : En} {Q : Str → En → Prop} (h : Ev t ρ (.str y) ρ) (hl : (acc ++ y).length ≤ sizeLine) (q : dJs ts (acc ++ y) ρ Q) : dJs (t :: ts) acc ρ Q := h _ ⟨hl, q⟩
theorem ev_fmtS {te : TEd} {ρ : En} {y : Str} (h : Ev te ρ (.str y) ρ) (hl : y.length ≤ sizeLine) : Ev (dFmt te) ρ (.str y) ρ := fun Q q => h _ ⟨hl, q⟩
theorem ev_fmtI {te : TEd} {ρ : En} {i : Int} (h : Ev te ρ (.int i) ρ) (hl : i.natAbs.log2 < 1920) : Ev (dFmt te) ρ (.str (toString i)) ρ := fun Q q => h _ ⟨hl, q⟩
theorem shape_len (b : Bool) : (shapeS b).length = 4 := by cases b <;> decide +kernel
theorem sight_len (b : Bool) : (sightS b).length ≤ 6 := by cases b <;> decide +kernel
theorem chase_len : ((("chase " : Str))).length = 6 := by decide +kernel
theorem sp_len : ((" " : Str)).length = 1 := by decide +kernel
theorem chase_eq : ((("chase " : Str))) = ((("chase" : Str))) ++ TX.sp := by decide +kernel
theorem emp_app (a : Str) : Str.empty ++ a = a := str_ext (by
  show (Str.empty.cps ++ a.cps).toList = _
  simp [Str.empty])
theorem ret_I {te : TEd} {Dd : EndsD} {ρ : En} (h : te ρ fun x ρ1 => Dd.rt (.d x) ρ1) : dRet te Dd ρ := h
theorem fstr_I {ts : List TEd} {ρ : En} {Q : D → En → Prop} (h : dJs ts Str.empty ρ fun out ρ1 => Q (.str out) ρ1) : dFstr ts ρ Q := h
theorem r_write (k : Kx) (gk : GmK k) : Rok 1 0 (g_write k) (t_write k) where
  len := by
    rintro qs π R RX ⟨ds, rfl, rfl, g, rfl, _⟩
    rfl
  run := by
    rintro qs π R RX ⟨ds, rfl, rfl, g, rfl, o, z⟩
    have h1 := o.m1
    have h2 := o.m6
    have h3 := o.f1
    have h4 := o.f5
    have h5 := o.q0
    have h6 := o.q5
    have d1 := dig_len _ (dig6 (i := g.many) (by omega) (by omega))
    have d2 := dig_len _ (dig6 (i := g.far) (by omega) (by omega))
    have d3 := dig_len _ (dig6 (i := g.quick) (by omega) (by omega))
    have s1 := shape_len g.ring
    have s2 := sight_len g.al
    have lens := sizeLine_eq
    refine ret_I (fstr_I ?_)
    have bd : ∀ n : Nat, n ≤ 100 → n ≤ sizeLine := fun n h => by rw [sizeLine_eq]; omega
    have e0 : (Str.empty ++ ((("chase " : Str)))).length = 6 := by rw [emp_app]; exact chase_len
    refine js_step ev_c (bd _ (by rw [e0]; decide)) ?_
    refine js_step (ev_fmtS (ev_f1 gk (ev_var rfl)) (bd _ (by omega))) (bd _ (by rw [len_app, e0]; omega)) ?_
    refine js_step ev_c (bd _ (by rw [len_app, len_app, e0, sp_len]; omega)) ?_
    refine js_step (ev_fmtI (ev_f2 gk (ev_var rfl)) (log6 (by omega) (by omega))) (bd _ (by simp only [len_app, e0, sp_len]; omega)) ?_
    refine js_step ev_c (bd _ (by simp only [len_app, e0, sp_len]; omega)) ?_
    refine js_step (ev_fmtI (ev_f3 gk (ev_var rfl)) (log6 (by omega) (by omega))) (bd _ (by simp only [len_app, e0, sp_len]; omega)) ?_
    refine js_step ev_c (bd _ (by simp only [len_app, e0, sp_len]; omega)) ?_
    refine js_step (ev_fmtI (ev_f4 gk (ev_var rfl)) (log6 (by omega) (by omega))) (bd _ (by simp only [len_app, e0, sp_len]; omega)) ?_
    refine js_step ev_c (bd _ (by simp only [len_app, e0, sp_len]; omega)) ?_
    refine js_step (ev_fmtS (ev_f5 gk (ev_var rfl)) (bd _ (by omega))) (bd _ (by simp only [len_app, e0, sp_len]; omega)) ?_
    show R (.d (.str _)) []
    have e : Str.join TX.sp (wordsG g) = Str.empty ++ ((("chase " : Str))) ++ shapeS g.ring ++ ((" " : Str)) ++ ((toString g.many : String) : Str) ++ ((" " : Str)) ++ ((toString g.far : String) : Str) ++ ((" " : Str)) ++ ((toString g.quick : String) : Str) ++ ((" " : Str)) ++ sightS g.al := by
      unfold wordsG
      rw [TX.join_cons _ (by simp), TX.join_cons _ (by simp), TX.join_cons _ (by simp), TX.join_cons _ (by simp), TX.join_cons _ (by simp), emp_app, chase_eq, TX.sp_eq]
      simp only [TX.app_assoc]
      rfl
    rw [e] at z
    exact z
theorem cl_write {k : Kx} {g : Gm} (o : g.Ok) : Cl (g_write k) [gameD k g] (.str (Str.join TX.sp (wordsG g))) := fun R X z => ⟨_, rfl, rfl, g, rfl, o, z⟩
end DL

/-! text RN12 -/
set_option Elab.async false
set_option linter.all false
set_option maxRecDepth 100000
set_option maxHeartbeats 1000000
set_option exponentiation.threshold 1100000
namespace DL
open PySem PySem.Spec PyProof.Rows L2 RZ
/-- sizeOf_list_dec: one step of a reading's value; array_get_dec: all steps -/
local macro_rules | `(tactic| sizeOf_list_dec) => `(tactic| first
  | exact ev_c | exact ev_var rfl | exact eva_nil | exact evT_yes
  | apply ev_op | apply ev_un | apply ev_not | apply ev_and | apply ev_or | apply ev_chain
  | apply ev_cb | apply ev_call | apply eva_cons | apply ev_tup | apply ev_lst
  | apply evT_val | apply evT_and | apply evT_or | apply evT_not
  | (apply ev_ifI <;> array_get_dec <;> done) | (apply ev_ifS <;> array_get_dec <;> done)
  | exact rr_addI | exact rr_sub | exact rr_lt | exact rr_le | exact rr_gt | exact rr_ge | exact rr_eqI | exact rr_eqS | exact rr_neI | exact rr_neS | exact rr_is | exact rr_isnot | exact rr_eqB | exact rr_neB
  | apply rr_mul | apply rr_div | apply rr_mod | apply rr_pow | exact rr_ixL rfl | exact rr_ixT rfl | apply rr_inL | apply rr_inT | apply rr_notinL | apply rr_notinT
  | exact ru_neg | (intro _; sizeOf_list_dec)
  | exact rr_eq rfl | exact rr_ne rfl
  | exact rc_lenL | exact rc_lenT | exact rc_lenD | exact rc_int | exact rc_intB | exact rc_abs | exact rc_min | exact rc_max | exact rc_tuple | exact rc_list | exact rc_listT
  | array_mem_dec)
local macro_rules | `(tactic| array_get_dec) => `(tactic| repeat' sizeOf_list_dec)
theorem rr_eqG12 {k : Kx} (ek : EqK k) {g h : Gm} : RR (oEqX k.K (k.cl "Game") (g_Game_eq k)) (gameD k g) (gameD k h) (.bl (gEq g h)) := fun Q q => .inl ⟨_, _, rfl, .i ek.ins, ek.ng, _, rfl, rfl, .inl ⟨g, h, rfl, _, rfl, q⟩⟩
theorem rr_neG12 {k : Kx} (ek : EqK k) (ne : PySem.W.findIn k.K (.ref (k.cl "Game")) "__ne__" = some (some (.builtin "object.__ne__"))) (mo : PySem.W.mroIn k.K (k.cl "Game") (.type "object") = some true) {g h : Gm} : RR (oNeX k.K (k.cl "Game") (g_Game_eq k)) (gameD k g) (gameD k h) (.bl (!gEq g h)) := fun Q q => .inl ⟨_, _, rfl, .i ek.ins, ek.ng, ne, mo, _, rfl, rfl, .inl ⟨g, h, rfl, _, rfl, q⟩⟩
theorem gEq12 (g : Gm) : gEq g g = true := by simp [gEq]
theorem rr_neR {k : Kx} (ek : EqK k) (ne : PySem.W.findIn k.K (.ref (k.cl "Game")) "__ne__" = some (some (.builtin "object.__ne__"))) (mo : PySem.W.mroIn k.K (k.cl "Game") (.type "object") = some true) (r : Rd) : RR (oNeX k.K (k.cl "Game") (g_Game_eq k)) (rdD k r) (rdD k r) (.bl false) := by
  cases r with
  | bad i =>
    have e : eqD (.int (i : Int)) (.int (i : Int)) = true := by simp [eqD]
    exact fun Q q => .inr ⟨rfl, by
      show Q (.bl (!eqD (.int (i : Int)) (.int (i : Int))))
      rw [e]
      exact q⟩
  | ok g =>
    have := rr_neG12 ek ne mo (g := g) (h := g)
    rw [gEq12] at this
    exact this
structure Good (w : Str) : Prop where
  f : TX.free w
  n : w ≠ ""
  l : w.length ≤ 10
theorem sum12 : ∀ {ws : List Str}, (∀ w ∈ ws, Good w) → (ws.map (·.length)).sum ≤ ws.length * 10
  | [], _ => by simp
  | w :: r, hg => by
    have h1 := (hg w (by simp)).l
    have h2 := sum12 (ws := r) fun x hx => hg x (List.mem_cons_of_mem _ hx)
    rw [List.map_cons, List.sum_cons, List.length_cons]
    omega
theorem ev_join12 {ρ : En} {j : Nat} {ws : List Str} (h : ρ.sl[j]? = some (.d (.lst (ws.map .str)))) (hl : ws.length ≤ 100) (hg : ∀ w ∈ ws, Good w) : Ev (dM1 oJoin (dC (.str " ")) (dVar j)) ρ (.str (Str.join TX.sp ws)) ρ := by
  intro Q q
  refine ⟨⟨_, rfl⟩, ev_var h _ ⟨ws, strsOf_map ws, ?_, ?_⟩⟩
  · have := sum12 hg
    rw [sp_len]
    omega
  · have e : Txt.join ((" " : Str)) ws = Str.join TX.sp ws := by
      rw [TX.sp_eq]
      exact StrLaws.glued_eq_join _ _
    rw [e]
    exact q
theorem join_len12 {ws : List Str} (hg : ∀ w ∈ ws, Good w) (hl : ws.length ≤ 100) : (Str.join TX.sp ws).length ≤ 10000 := by
  have := StrLaws.join_length_le TX.sp ws
  have h2 := sum12 hg
  have h3 : TX.sp.length = 1 := rfl
  rw [h3] at this
  omega
theorem toks12 {ws : List Str} (hg : ∀ w ∈ ws, Good w) : TX.toks (Str.join TX.sp ws) = ws := by
  rw [TX.toks_join fun w hw => (hg w hw).f, TX.full_all fun w hw => (hg w hw).n]
theorem good_dig : ∀ w ∈ digS, Good w := fun w hw => ⟨(by decide +kernel : ∀ w ∈ digS, 32 ∉ w.cps.toList) w hw, (by decide +kernel : ∀ w ∈ digS, w ≠ "") w hw, by rw [dig_len w hw]; decide⟩
theorem good_words {g : Gm} (o : g.Ok) : ∀ w ∈ wordsG g, Good w := by
  have h1 := o.m1
  have h2 := o.m6
  have h3 := o.f1
  have h4 := o.f5
  have h5 := o.q0
  have h6 := o.q5
  intro w hw
  have hs : ∀ b, Good (shapeS b) := fun b => by cases b <;> exact ⟨by show 32 ∉ _; decide +kernel, by decide +kernel, by decide +kernel⟩
  have ht : ∀ b, Good (sightS b) := fun b => by cases b <;> exact ⟨by show 32 ∉ _; decide +kernel, by decide +kernel, by decide +kernel⟩
  unfold wordsG at hw
  simp only [List.mem_cons, List.not_mem_nil, or_false] at hw
  rcases hw with rfl | rfl | rfl | rfl | rfl | rfl
  · exact ⟨by show 32 ∉ _; decide +kernel, by decide +kernel, by decide +kernel⟩
  · exact hs _
  · exact good_dig _ (dig6 (by omega) (by omega))
  · exact good_dig _ (dig6 (by omega) (by omega))
  · exact good_dig _ (dig6 (by omega) (by omega))
  · exact ht _
theorem num_dig {i : Int} (h0 : 0 ≤ i) (h6 : i ≤ 6) : numW ((toString i : String) : Str) = i := by
  obtain ⟨n, rfl⟩ : ∃ n : Nat, i = n := ⟨i.toNat, by omega⟩
  have : n = 0 ∨ n = 1 ∨ n = 2 ∨ n = 3 ∨ n = 4 ∨ n = 5 ∨ n = 6 := by omega
  rcases this with rfl | rfl | rfl | rfl | rfl | rfl | rfl <;> decide +kernel
theorem dig_in2 {i : Int} (h0 : 1 ≤ i) (h6 : i ≤ 6) : (due12.getD 2 []).contains ((toString i : String) : Str) = true := by
  obtain ⟨n, rfl⟩ : ∃ n : Nat, i = n := ⟨i.toNat, by omega⟩
  have : n = 1 ∨ n = 2 ∨ n = 3 ∨ n = 4 ∨ n = 5 ∨ n = 6 := by omega
  rcases this with rfl | rfl | rfl | rfl | rfl | rfl <;> decide +kernel
theorem dig_in3 {i : Int} (h0 : 1 ≤ i) (h6 : i ≤ 5) : (due12.getD 3 []).contains ((toString i : String) : Str) = true := by
  obtain ⟨n, rfl⟩ : ∃ n : Nat, i = n := ⟨i.toNat, by omega⟩
  have : n = 1 ∨ n = 2 ∨ n = 3 ∨ n = 4 ∨ n = 5 := by omega
  rcases this with rfl | rfl | rfl | rfl | rfl <;> decide +kernel
theorem dig_in4 {i : Int} (h0 : 0 ≤ i) (h6 : i ≤ 5) : (due12.getD 4 []).contains ((toString i : String) : Str) = true := by
  obtain ⟨n, rfl⟩ : ∃ n : Nat, i = n := ⟨i.toNat, by omega⟩
  have : n = 0 ∨ n = 1 ∨ n = 2 ∨ n = 3 ∨ n = 4 ∨ n = 5 := by omega
  rcases this with rfl | rfl | rfl | rfl | rfl | rfl <;> decide +kernel
theorem readW_words {g : Gm} (o : g.Ok) : readW (wordsG g) = .ok g := by
  have h1 := o.m1
  have h2 := o.m6
  have h3 := o.f1
  have h4 := o.f5
  have h5 := o.q0
  have h6 := o.q5
  have n2 := num_dig (i := g.many) (by omega) (by omega)
  have n3 := num_dig (i := g.far) (by omega) (by omega)
  have n4 := num_dig (i := g.quick) (by omega) (by omega)
  have hf : ∀ j, j < 6 → fineAt (wordsG g) j = true := fun j hj => by
    have c : j = 0 ∨ j = 1 ∨ j = 2 ∨ j = 3 ∨ j = 4 ∨ j = 5 := by omega
    rcases c with rfl | rfl | rfl | rfl | rfl | rfl
    · exact (by decide +kernel : (due12.getD 0 []).contains ((("chase" : Str))) = true)
    · exact (by intro b; cases b <;> decide +kernel : ∀ b, (due12.getD 1 []).contains (shapeS b) = true) g.ring
    · exact dig_in2 h1 h2
    · exact dig_in3 h3 h4
    · exact dig_in4 h5 h6
    · exact (by intro b; cases b <;> decide +kernel : ∀ b, (due12.getD 5 []).contains (sightS b) = true) g.al
  have hu : untoldW (wordsG g) = false := by
    show (decide (shapeS g.ring = "ring") && (decide (sightS g.al = "never") && (decide (1 < numW ((toString g.many : String) : Str)) && decide (numW ((toString g.many : String) : Str) % 2 = 1)))) = false
    rw [n2, sh_ring, al_never]
    have := o.told
    cases hr : g.ring <;> cases ha : g.al <;> simp [hr, ha] at this ⊢
    exact this
  rw [readW_fine hf, if_neg (by rw [hu]; decide), if_neg (by show ¬ 6 < 6; decide)]
  congr 1
  show (⟨decide (shapeS g.ring = "ring"), numW ((toString g.many : String) : Str), numW ((toString g.far : String) : Str), numW ((toString g.quick : String) : Str), decide (sightS g.al = "always")⟩ : Gm) = g
  rw [n2, n3, n4, sh_ring, al_always]
theorem cl_read12 {k : Kx} {t : Str} {g : Gm} (tl : t.length ≤ 10000) (ht : (TX.toks t).length ≤ 1000) (h : readW (TX.toks t) = .ok g) : Cl (g_read k) [.str t] (gameD k g) := fun R X z => ⟨_, rfl, rfl, t, rfl, tl, ht, by rw [h]; exact z⟩
theorem cl_told12 {k : Kx} {t : Str} (tl : t.length ≤ 10000) (ht : (TX.toks t).length ≤ 1000) : Cl (g_law_told_k12 k) [.str t] (rdD k (readW (TX.toks t))) := fun R X z => ⟨_, rfl, rfl, t, rfl, tl, ht, z⟩
theorem cl_due12 {k : Kx} {ws : List Str} (hl : ws.length ≤ 1000) (hn : ∀ w ∈ ws, w ≠ "") : Cl (g_law_due_k12 k) [.lst (ws.map .str)] (rdD k (readW ws)) := fun R X z => ⟨_, rfl, rfl, ws, rfl, hl, hn, z⟩
/-! the law -/
def odd12 : List Str := ["0", "3", "6", "7", "01", "chase", "ring", "path", "always", "never", "-1", "x", "chase\n"]
theorem good_odd : ∀ w ∈ odd12, Good w := fun w hw => ⟨(by decide +kernel : ∀ w ∈ odd12, 32 ∉ w.cps.toList) w hw, (by decide +kernel : ∀ w ∈ odd12, w ≠ "") w hw, (by decide +kernel : ∀ w ∈ odd12, w.length ≤ 10) w hw⟩
/-- texts of spaces -/
theorem evs_spaces {te : TEd} {ρ : En} (h : EvS te ρ (fun x => ∃ r : Int, x = .int r ∧ 0 ≤ r ∧ r ≤ 10)) : EvS (dOp oMulS (dC (.str " ")) te) ρ (fun x => ∃ n : Nat, x = .str (repS TX.sp n) ∧ n ≤ 10) :=
  evs_op (evs_ev ev_c) h fun x y hx hy => by
    subst hx
    obtain ⟨r, rfl, r0, r1⟩ := hy
    exact ⟨_, fun Q q => ⟨⟨r0, by omega, by rw [sp_len]; decide⟩, q⟩, r.toNat, by rw [TX.sp_eq], by omega⟩
/-- spaces of at least one -/
theorem evs_spaces1 {te : TEd} {ρ : En} (h : EvS te ρ (fun x => ∃ r : Int, x = .int r ∧ 0 ≤ r ∧ r ≤ 9)) : EvS (dOp oMulS (dC (.str " ")) (dOp oAdd (dC (.int 1)) te)) ρ (fun x => ∃ n : Nat, x = .str (repS TX.sp n) ∧ 1 ≤ n ∧ n ≤ 10) :=
  evs_op (evs_ev ev_c) (evs_op (T := fun x => ∃ r : Int, x = .int r ∧ 0 ≤ r ∧ r ≤ 9) (U := fun x => ∃ r : Int, x = .int r ∧ 1 ≤ r ∧ r ≤ 10) (evs_ev (x := .int 1) ev_c) h fun x y hx hy => by
    subst hx
    obtain ⟨r, rfl, r0, r1⟩ := hy
    exact ⟨_, rr_addI, _, rfl, by omega, by omega⟩) fun x y hx hy => by
    subst hx
    obtain ⟨r, rfl, r0, r1⟩ := hy
    exact ⟨_, fun Q q => ⟨⟨by omega, by omega, by rw [sp_len]; decide⟩, q⟩, r.toNat, by rw [TX.sp_eq], by omega, by omega⟩
/-- a text of parts, a space at its end or nothing at all -/
structure Loose (t : Str) (ws : List Str) (n : Nat) : Prop where
  ex : ∃ ps : List Str, (∀ p ∈ ps, TX.free p) ∧ t = Str.join TX.sp (ps ++ [((("" : Str)))]) ∧ TX.full ps = ws
  len : t.length ≤ n
theorem repS_sp_len (n : Nat) : (repS TX.sp n).length = n := by
  rw [repS_len]
  show n * 1 = n
  omega
theorem loose0 {n : Nat} (h : n ≤ 10) : Loose (repS TX.sp n) [] 10 := by
  refine ⟨⟨List.replicate n ((("" : Str))), fun p hp => by rw [List.eq_of_mem_replicate hp]; exact TX.free_empty, ?_, TX.full_rep n⟩, by rw [repS_sp_len]; exact h⟩
  rw [TX.spaces_join, List.replicate_succ']
theorem loose1 {t w : Str} {ws : List Str} {n m : Nat} (h : Loose t ws n) (hg : Good w) (m1 : 1 ≤ m) (m10 : m ≤ 10) : Loose (t ++ w ++ repS TX.sp m) (ws ++ [w]) (n + 20) := by
  obtain ⟨⟨ps, hf, rfl, hw⟩, hl⟩ := h
  refine ⟨⟨ps ++ [w] ++ List.replicate (m - 1) ((("" : Str))), fun p hp => ?_, ?_, ?_⟩, ?_⟩
  · rcases List.mem_append.mp hp with hp | hp
    · rcases List.mem_append.mp hp with hp | hp
      · exact hf p hp
      · rw [List.mem_singleton] at hp; rw [hp]; exact hg.f
    · rw [List.eq_of_mem_replicate hp]; exact TX.free_empty
  · have e1 : ps ++ [w] ++ List.replicate (m - 1) ((("" : Str))) ++ [((("" : Str)))] = (ps ++ [w]) ++ List.replicate m ((("" : Str))) := by
      rw [List.append_assoc, ← List.replicate_succ']
      congr 2
      omega
    rw [e1, TX.join_spaces _ (by simp), TX.join_snoc, TX.empty_app]
  · rw [TX.full_app, TX.full_app, hw, TX.full_rep, List.append_nil]
    congr 1
    exact TX.full_all fun x hx => by rw [List.mem_singleton] at hx; rw [hx]; exact hg.n
  · rw [len_app, len_app, repS_sp_len]
    have := hg.l
    omega
theorem loose_toks {t : Str} {ws : List Str} {n : Nat} (h : Loose t ws n) : TX.toks t = ws := by
  obtain ⟨⟨ps, hf, rfl, hw⟩, _⟩ := h
  rw [TX.toks_join, TX.full_app, hw]
  · show ws ++ [] = ws
    rw [List.append_nil]
  · intro p hp
    rcases List.mem_append.mp hp with hp | hp
    · exact hf p hp
    · rw [List.mem_singleton] at hp; rw [hp]; exact TX.free_empty
theorem strip_len (t : Str) : (Txt.stripChars t TX.sp).length ≤ t.length := len_stripBy _ _ _ _
/-- lists of good words -/
def Ws (n : Nat) (x : D) : Prop := ∃ ws : List Str, x = .lst (ws.map .str) ∧ (∀ w ∈ ws, Good w) ∧ ws.length ≤ n
theorem sIx_in {n m : Nat} {i : Int} (h : 0 ≤ i) : HT.sIx n m (some i) = min i.toNat n := by
  obtain ⟨k, rfl⟩ : ∃ k : Nat, i = k := ⟨i.toNat, by omega⟩
  rw [HT.sIx_nat, Int.toNat_natCast]
theorem cut_words {ws : List Str} (hg : ∀ w ∈ ws, Good w) (lo hi : Option Int) : ∃ vs : List Str, cutD (ws.map .str) lo hi = .map .str vs ∧ (∀ w ∈ vs, Good w) ∧ vs.length ≤ ws.length := by
  refine ⟨(ws.drop (HT.sIx (ws.map D.str).length 0 lo)).take (HT.sIx (ws.map D.str).length (ws.map D.str).length hi - HT.sIx (ws.map D.str).length 0 lo), ?_, fun w hw => hg w (List.mem_of_mem_drop (List.mem_of_mem_take hw)), ?_⟩
  · unfold cutD
    rw [List.map_take, List.map_drop]
  · rw [List.length_take, List.length_drop]
    omega
/-! the walk -/
section
variable {ρ : En} {te ta tb : TEd} {j : Nat} {l : List D} {i : Int} {Dd : EndsD} {tbS : TSd}
theorem ev_slH (ha : Ev ta ρ (.lst l) ρ) (hb : Ev tb ρ (.int i) ρ) (h : 0 ≤ i) : Ev (dSlH ta tb) ρ (.lst (l.take i.toNat)) ρ := fun Q q => ha _ (hb _ ⟨h, q⟩)
theorem ev_slG1 (ha : Ev ta ρ (.lst l) ρ) (hb : Ev tb ρ (.int i) ρ) : Ev (dSlG ta (pSome tb) pNone) ρ (.lst (cutD l (some i) none)) ρ := fun Q q => ha _ (hb _ q)
theorem ev_slG2 {i2 : Int} {tc : TEd} (ha : Ev ta ρ (.lst l) ρ) (hb : Ev tb ρ (.int i) ρ) (hc : Ev tc ρ (.int i2) ρ) : Ev (dSlG ta (pSome tb) (pSome tc)) ρ (.lst (cutD l (some i) (some i2))) ρ := fun Q q => ha _ (hb _ (hc _ q))
theorem st_forI {n : Nat} (hn : n ≤ 100) (h : EvS te ρ (fun x => ∃ r : Int, x = .int r ∧ 0 ≤ r ∧ r ≤ n)) (Pv : Nat → En → Prop) (h0 : Pv 0 ρ) (hb : ∀ i d ρ, i < n → Pv i ρ → tbS { Dd with nx := Pv (i + 1), ct := Pv (i + 1), bk := Dd.nx } ⟨ρ.sl.set j (.d d), ρ.pa⟩) (he : ∀ i ρ, i ≤ n → Pv i ρ → Dd.nx ρ) : dFor (iR1 te) (gN j) tbS Dd ρ := by
  refine h (fun x ρ1 => _) ?_
  rintro x ⟨r, rfl, r0, r1⟩
  refine ⟨⟨by omega, by omega⟩, Pv, h0, fun i d ρ hd hp => ?_, fun ρ hp => ?_⟩
  · have := (List.getElem?_eq_some_iff.mp hd).1
    rw [rangeD_len] at this
    exact hb i d ρ (by omega) hp
  · rw [rangeD_len] at hp
    exact he _ ρ (by omega) hp
end
theorem take_good {ws : List Str} (hg : ∀ w ∈ ws, Good w) (n : Nat) : ∃ vs : List Str, (ws.map D.str).take n = .map .str vs ∧ (∀ w ∈ vs, Good w) ∧ vs.length ≤ ws.length :=
  ⟨ws.take n, by rw [List.map_take], fun w hw => hg w (List.mem_of_mem_take hw), by rw [List.length_take]; omega⟩
theorem end12 : TX.toks ((("" : Str))) = [] ∧ TX.toks (((" " : Str))) = [] := by decide +kernel
theorem read12 : readW [] = .bad 1 := by rfl
theorem r_law_k12 (k : Kx) (gk : GmK k) (ek : EqK k) (ne : PySem.W.findIn k.K (.ref (k.cl "Game")) "__ne__" = some (some (.builtin "object.__ne__"))) (mo : PySem.W.mroIn k.K (k.cl "Game") (.type "object") = some true) (on : k.ex = true) : Rok 1 11 lawG (t_law_k12 k) where
  len := by
    rintro qs π R RX ⟨ns, rfl, _⟩
    rfl
  run := by
    rintro qs π R RX ⟨ns, rfl, rfl, hn, z⟩
    refine st_seq (draws_use hn (by array_get_dec) ?_)
    dsimp only
    refine st_seq (st_set0 (x := .lst (odd12.map .str)) (ev_lst (eva_cons ev_c (eva_cons ev_c (eva_cons ev_c (eva_cons ev_c (eva_cons ev_c (eva_cons ev_c (eva_cons ev_c (eva_cons ev_c (eva_cons ev_c (eva_cons ev_c (eva_cons ev_c (eva_cons ev_c (eva_cons ev_c eva_nil))))))))))))) (six_line (Nat.le_of_ble_eq_true rfl))) ?_)
    dsimp only
    show dSeq _ _ _ ⟨[.d (.scr ns), .own .row, .d (.lst (odd12.map .str)), .no, .no, .no, .no, .no, .no, .no, .no, .no], []⟩
    refine st_seq (st_for (rangeD 0 (12 : Int).toNat) (it_r1 ev_c (by decide)) (fun i ρ => ∃ s3 s4 s5 s6 s7 s8 s9 s10 s11, ρ = ⟨[.d (.scr ns), .own .row, .d (.lst (odd12.map .str)), s3, s4, s5, s6, s7, s8, s9, s10, s11], []⟩) ⟨_, _, _, _, _, _, _, _, _, rfl⟩ ?_ ?_)
    · rintro i d ρ hd ⟨s3, s4, s5, s6, s7, s8, s9, s10, s11, rfl⟩
      show dSeq _ _ _ ⟨[.d (.scr ns), .own .row, .d (.lst (odd12.map .str)), .d d, s4, s5, s6, s7, s8, s9, s10, s11], []⟩
      refine st_seq (drawn_use 6 5 rfl (by array_get_dec) (by decide) (by decide) (by decide) (by decide) (fun g o _ _ => ?_))
      dsimp only
      show dSeq _ _ _ ⟨[.d (.scr ns), .own .row, .d (.lst (odd12.map .str)), .d d, .d (.dic (lawGD g)), s5, s6, s7, s8, s9, s10, s11], []⟩
      refine st_seq (st_par (x := gameD k g) (y := .lst ((wordsG g).map .str)) (ev_call0 (eva_cons (ev_var rfl) eva_nil) (cl_law_made o)) (ev_call0 (eva_cons (ev_var rfl) eva_nil) (cl_words_of o)) ?_)
      dsimp only
      show dSeq _ _ _ ⟨[.d (.scr ns), .own .row, .d (.lst (odd12.map .str)), .d d, .d (.dic (lawGD g)), .d (gameD k g), .d (.lst ((wordsG g).map .str)), s7, s8, s9, s10, s11], []⟩
      have gw := good_words o
      have l6 : (wordsG g).length = 6 := rfl
      have jl := join_len12 gw (by rw [l6]; decide)
      have tk := toks12 gw
      have rd := readW_words o
      refine st_seq (st_if0 (b := false) ?_ (fun w => by cases w) (fun _ => st_next ?_))
      · exact evT_eq0 (b := false || false) (evT_or (evT_val (ev_eq0 (ev_op (ev_call0 (eva_cons (ev_var rfl) eva_nil) (cl_write o)) (ev_join12 rfl (by rw [l6]; decide) gw) rr_neS) (by simp))) (fun _ => evT_eq (evT_not (evT_val (ev_eq0 (ev_op (ev_call0 (eva_cons (ev_join12 rfl (by rw [l6]; decide) gw) eva_nil) (cl_read12 jl (by rw [tk, l6]; decide) (by rw [tk]; exact rd))) (ev_var rfl) (rr_eqG12 ek)) (by rw [gEq12])))) rfl)) rfl
      dsimp only
      refine st_seq (st_setS (evs_spaces (evs_imp (evs_pick 3 rfl (eva_cons ev_c eva_nil) (by decide) (sm3000 (by decide))) (fun x ⟨r, e, a, b⟩ => ⟨r, e, a, by omega⟩))) ?_)
      rintro x ⟨n, rfl, n10⟩
      dsimp only
      show dSeq _ _ _ ⟨[.d (.scr ns), .own .row, .d (.lst (odd12.map .str)), .d d, .d (.dic (lawGD g)), .d (gameD k g), .d (.lst ((wordsG g).map .str)), .d (.str (repS TX.sp n)), s8, s9, s10, s11], []⟩
      refine st_seq (st_for ((wordsG g).map .str) (it_lst (ev_var rfl)) (fun i ρ => ∃ t s8, Loose t ((wordsG g).take i) (10 + 20 * i) ∧ ρ = ⟨[.d (.scr ns), .own .row, .d (.lst (odd12.map .str)), .d d, .d (.dic (lawGD g)), .d (gameD k g), .d (.lst ((wordsG g).map .str)), .d (.str t), s8, s9, s10, s11], []⟩) ⟨_, _, loose0 n10, rfl⟩ ?_ ?_)
      · rintro j e ρ he ⟨t, s8, hL, rfl⟩
        rw [List.getElem?_map] at he
        cases ew : (wordsG g)[j]? with
        | none => rw [ew] at he; cases he
        | some w =>
          rw [ew] at he
          cases he
          have hj : j < 6 := by have := (List.getElem?_eq_some_iff.mp ew).1; rw [l6] at this; exact this
          have wg := gw w (List.mem_of_getElem? ew)
          have tl := hL.len
          have wl := wg.l
          show dSet _ _ _ ⟨[.d (.scr ns), .own .row, .d (.lst (odd12.map .str)), .d d, .d (.dic (lawGD g)), .d (gameD k g), .d (.lst ((wordsG g).map .str)), .d (.str t), .d (.str w), s9, s10, s11], []⟩
          refine st_setS (S := fun x => ∃ m : Nat, x = .str (t ++ w ++ repS TX.sp m) ∧ 1 ≤ m ∧ m ≤ 10) (evs_op (S := fun x => x = .str (t ++ w)) (evs_ev (ev_op (ev_var rfl) (ev_var rfl) (rr_addS (by rw [sizeLine_eq]; omega)))) (evs_spaces1 (evs_imp (evs_pick 3 rfl (eva_cons ev_c eva_nil) (by decide) (sm3000 (by decide))) (fun x ⟨r, e, a, b⟩ => ⟨r, e, a, by omega⟩))) fun x y hx hy => ?_) ?_
          · subst hx
            obtain ⟨m, rfl, m1, m10⟩ := hy
            exact ⟨_, rr_addS (by rw [len_app, repS_sp_len, sizeLine_eq]; omega), m, rfl, m1, m10⟩
          · rintro x ⟨m, rfl, m1, m10⟩
            refine ⟨_, _, ?_, rfl⟩
            rw [List.take_add_one, ew]
            exact loose1 hL wg m1 m10
      · rintro ρ ⟨t, s8, hL, rfl⟩
        rw [List.length_map, l6, List.take_of_length_le (by rw [l6]; exact Nat.le_refl _)] at hL
        have tt := loose_toks hL
        have tl := hL.len
        have sl := strip_len t
        dsimp only
        show dSeq _ _ _ ⟨[.d (.scr ns), .own .row, .d (.lst (odd12.map .str)), .d d, .d (.dic (lawGD g)), .d (gameD k g), .d (.lst ((wordsG g).map .str)), .d (.str t), s8, s9, s10, s11], []⟩
        refine st_seq (st_if0 (b := false) ?_ (fun w => by cases w) (fun _ => st_next ?_))
        · have ss : Ev (dM1 oStripC (dVar 7) (dC (.str " "))) ⟨[.d (.scr ns), .own .row, .d (.lst (odd12.map .str)), .d d, .d (.dic (lawGD g)), .d (gameD k g), .d (.lst ((wordsG g).map .str)), .d (.str t), s8, s9, s10, s11], []⟩ (.str (Txt.stripChars t TX.sp)) _ := fun Q q => (ev_var rfl) _ ⟨⟨_, rfl⟩, by rw [sizeLine_eq]; omega, by rw [TX.sp_eq]; exact q⟩
          have t2 : TX.toks (Txt.stripChars t TX.sp) = wordsG g := (TX.toks_strip t).trans tt
          exact evT_eq0 (b := false || false) (evT_or (evT_eq (evT_not (evT_val (ev_eq0 (ev_op (ev_call0 (eva_cons (ev_var rfl) eva_nil) (cl_read12 (by omega) (by rw [tt, l6]; decide) (by rw [tt]; exact rd))) (ev_var rfl) (rr_eqG12 ek)) (by rw [gEq12])))) rfl) (fun _ => evT_eq (evT_not (evT_val (ev_eq0 (ev_op (ev_call0 (eva_cons ss eva_nil) (cl_read12 (by omega) (by rw [t2, l6]; decide) (by rw [t2]; exact rd))) (ev_var rfl) (rr_eqG12 ek)) (by rw [gEq12])))) rfl)) rfl
        dsimp only
        refine st_seq (st_forI (n := 2) (by decide) (evs_op (T := fun x => ∃ r : Int, x = .int r ∧ 0 ≤ r ∧ r < 2) (evs_ev (x := .int 1) ev_c) (evs_pick 2 rfl (eva_cons ev_c eva_nil) (by decide) (sm3000 (by decide))) (fun x y hx hy => ?_)) (fun i ρ => ∃ ws s9 s10 s11, (∀ w ∈ ws, Good w) ∧ ws.length ≤ 6 * 4 ^ i ∧ ρ = ⟨[.d (.scr ns), .own .row, .d (.lst (odd12.map .str)), .d d, .d (.dic (lawGD g)), .d (gameD k g), .d (.lst (.map .str ws)), .d (.str t), s8, s9, s10, s11], []⟩) ⟨wordsG g, _, _, _, gw, by rw [l6]; decide, rfl⟩ ?_ ?_)
        · subst hx
          obtain ⟨r, rfl, r0, r1⟩ := hy
          exact ⟨_, rr_addI, _, rfl, by omega, by omega⟩
        · rintro i e ρ hi ⟨ws, s9, s10, s11, hg, hl, rfl⟩
          have hl2 : ws.length ≤ 24 := Nat.le_trans hl (by
            have c : i = 0 ∨ i = 1 := by omega
            rcases c with rfl | rfl <;> decide)
          have up : ∀ vs : List Str, vs.length ≤ 4 * ws.length ∨ vs.length ≤ 2 * ws.length + 1 → vs.length ≤ 6 * 4 ^ (i + 1) := fun vs hv => by
            have c : i = 0 ∨ i = 1 := by omega
            rcases c with rfl | rfl
            · have hl : ws.length ≤ 6 := hl
              show vs.length ≤ 24
              omega
            · have hl : ws.length ≤ 24 := hl2
              show vs.length ≤ 96
              omega
          show dSeq _ _ _ ⟨[.d (.scr ns), .own .row, .d (.lst (odd12.map .str)), .d d, .d (.dic (lawGD g)), .d (gameD k g), .d (.lst (.map .str ws)), .d (.str t), s8, .d e, s10, s11], []⟩
          refine st_seq (st_parS (evs_pick ((ws.map D.str).length + 1 : Int) rfl (eva_cons (ev_op (ev_cb (eva_cons (ev_var rfl) eva_nil) rc_lenL) ev_c rr_addI) eva_nil) (by omega) (sm3000 (by rw [List.length_map]; omega))) (evs_pick 4 rfl (eva_cons ev_c eva_nil) (by decide) (sm3000 (by decide))) ?_)
          rintro x y ⟨p, rfl, p0, p1⟩ ⟨q, rfl, q0, q1⟩
          dsimp only
          show dIfS _ _ _ _ ⟨[.d (.scr ns), .own .row, .d (.lst (odd12.map .str)), .d d, .d (.dic (lawGD g)), .d (gameD k g), .d (.lst (.map .str ws)), .d (.str t), s8, .d e, .d (.int p), .d (.int q)], []⟩
          obtain ⟨va, ea, ga, la⟩ := take_good hg p.toNat
          have szn : ∀ n : Nat, n ≤ 1000 → n ≤ sizeLine := fun n h => by rw [sizeLine_eq]; omega
          refine st_if0 (b := decide (q = 0)) (evT_val (ev_op (ev_var rfl) ev_c rr_eqI)) (fun w => ?_) (fun w => ?_)
          · obtain ⟨vb, eb, gb, lb⟩ := cut_words hg (some (p + 1)) none
            refine st_set0 (x := .lst ((va ++ vb).map .str)) (ev_eq0 (ev_op (ev_slH (ev_var rfl) (ev_var rfl) p0) (ev_slG1 (ev_var rfl) (ev_op (ev_var rfl) ev_c rr_addI)) (rr_addL (by rw [ea, eb]; exact szn _ (by simp only [List.length_map]; omega)))) (by rw [ea, eb, List.map_append])) ?_
            refine ⟨va ++ vb, _, _, _, fun w hw => (List.mem_append.mp hw).elim (ga w) (gb w), up _ (.inr (by rw [List.length_append]; omega)), rfl⟩
          · refine st_if0 (b := decide (q = 1)) (evT_val (ev_op (ev_var rfl) ev_c rr_eqI)) (fun w2 => ?_) (fun w2 => ?_)
            · obtain ⟨vb, eb, gb, lb⟩ := cut_words hg (some (p + 1)) none
              obtain ⟨vc, ec, gc, lc⟩ := cut_words hg (some p) (some (p + 1))
              have e2 : (List.replicate (2 : Int).toNat (cutD (ws.map .str) (some p) (some (p + 1)))).flatten = (vc ++ vc).map D.str := by
                rw [ec, List.map_append]
                show vc.map D.str ++ (vc.map D.str ++ []) = _
                rw [List.append_nil]
              refine st_set0 (x := .lst ((va ++ (vc ++ vc) ++ vb).map .str)) (ev_eq0 (ev_op (ev_op (ev_slH (ev_var rfl) (ev_var rfl) p0) (ev_op (ev_slG2 (ev_var rfl) (ev_var rfl) (ev_op (ev_var rfl) ev_c rr_addI)) ev_c (rr_rep (by rw [ec, List.length_map]; omega) (by decide) (by decide))) (rr_addL (by rw [ea, e2]; exact szn _ (by simp only [List.length_map, List.length_append]; omega)))) (ev_slG1 (ev_var rfl) (ev_op (ev_var rfl) ev_c rr_addI)) (rr_addL (by rw [ea, e2, eb]; exact szn _ (by simp only [List.length_map, List.length_append]; omega)))) (by rw [ea, e2, eb]; simp only [List.map_append])) ?_
              refine ⟨va ++ (vc ++ vc) ++ vb, _, _, _, fun w hw => ?_, up _ (.inl (by simp only [List.length_append]; omega)), rfl⟩
              rcases List.mem_append.mp hw with hw | hw
              · rcases List.mem_append.mp hw with hw | hw
                · exact ga w hw
                · exact (List.mem_append.mp hw).elim (gc w) (gc w)
              · exact gb w hw
            · obtain ⟨vb, eb, gb, lb⟩ := cut_words hg (some (p + q - 2)) none
              refine st_setS (S := fun x => ∃ o ∈ odd12, x = .lst ((va ++ [o] ++ vb).map .str)) ?_ ?_
              · refine evs_op (S := fun x => ∃ o ∈ odd12, x = .lst ((va ++ [o]).map .str)) (T := fun x => x = .lst (vb.map .str)) (evs_op (S := fun x => x = .lst (va.map .str)) (T := fun x => ∃ o ∈ odd12, x = .lst [.str o]) (evs_ev (ev_eq0 (ev_slH (ev_var rfl) (ev_var rfl) p0) (by rw [ea]))) ?_ ?_) (evs_ev (ev_eq0 (ev_slG1 (ev_var rfl) (ev_op (ev_op (ev_var rfl) (ev_var rfl) rr_addI) ev_c rr_sub)) (by rw [eb]))) ?_
                · intro Q hQ
                  refine lst_I (cons_I (evs_ix (l := odd12.map .str) (ev_var rfl) (evs_pick 13 rfl (eva_cons ev_c eva_nil) (by decide) (sm3000 (by decide))) _ fun x hx => ?_))
                  obtain ⟨o, ho, rfl⟩ := List.mem_map.mp hx
                  exact ⟨six_line (Nat.le_of_ble_eq_true rfl), hQ _ ⟨o, ho, rfl⟩⟩
                · rintro x y rfl ⟨o, ho, rfl⟩
                  exact ⟨_, rr_addL (szn _ (by simp only [List.length_map, List.length_singleton]; omega)), o, ho, by rw [List.map_append]; rfl⟩
                · rintro x y ⟨o, ho, rfl⟩ rfl
                  exact ⟨_, rr_addL (szn _ (by simp only [List.length_map, List.length_append, List.length_singleton]; omega)), o, ho, by rw [List.map_append (l₁ := va ++ [o])]⟩
              · rintro x ⟨o, ho, rfl⟩
                refine ⟨va ++ [o] ++ vb, _, _, _, fun w hw => ?_, up _ (.inr (by simp only [List.length_append, List.length_singleton]; omega)), rfl⟩
                rcases List.mem_append.mp hw with hw | hw
                · rcases List.mem_append.mp hw with hw | hw
                  · exact ga w hw
                  · rw [List.mem_singleton] at hw; rw [hw]; exact good_odd o ho
                · exact gb w hw
        · rintro i ρ hi ⟨ws, s9, s10, s11, hg, hl, rfl⟩
          have hl2 : ws.length ≤ 96 := Nat.le_trans hl (by
            have c : i = 0 ∨ i = 1 ∨ i = 2 := by omega
            rcases c with rfl | rfl | rfl <;> decide)
          dsimp only
          have tw := toks12 hg
          refine st_if0 (b := false) (evT_val (ev_op (x := rdD k (readW ws)) (y := rdD k (readW ws)) (ev_eq0 (ev_call0 (eva_cons (ev_join12 rfl (by omega) hg) eva_nil) (cl_told12 (join_len12 hg (by omega)) (by rw [tw]; omega))) (by rw [tw])) (ev_call0 (eva_cons (ev_var rfl) eva_nil) (cl_due12 (by omega) fun w hw => (hg w hw).n)) (rr_neR ek ne mo _))) (fun w => by cases w) (fun _ => st_next ?_)
          exact ⟨_, _, _, _, _, _, _, _, _, rfl⟩
    · rintro ρ ⟨s3, s4, s5, s6, s7, s8, s9, s10, s11, rfl⟩
      obtain ⟨t1, t2⟩ := end12
      have a1 : ∀ RX', Ev (dOp oEq (dCall (g_law_told_k12 k) RX' (dCons (dC (.str "")) dNil)) (dC (.int 1))) ⟨[.d (.scr ns), .own .row, .d (.lst (odd12.map .str)), s3, s4, s5, s6, s7, s8, s9, s10, s11], []⟩ (.bl true) ⟨[.d (.scr ns), .own .row, .d (.lst (odd12.map .str)), s3, s4, s5, s6, s7, s8, s9, s10, s11], []⟩ := fun RX' => ev_eq0 (ev_op (x := .int ((1 : Nat) : Int)) (ev_eq0 (ev_call0 (eva_cons ev_c eva_nil) (cl_told12 (by decide +kernel) (by rw [t1]; decide))) (by rw [t1, read12]; rfl)) ev_c rr_eqI) rfl
      have a2 : ∀ RX', Ev (dOp oEq (dCall (g_law_told_k12 k) RX' (dCons (dC (.str " ")) dNil)) (dC (.int 1))) ⟨[.d (.scr ns), .own .row, .d (.lst (odd12.map .str)), s3, s4, s5, s6, s7, s8, s9, s10, s11], []⟩ (.bl true) ⟨[.d (.scr ns), .own .row, .d (.lst (odd12.map .str)), s3, s4, s5, s6, s7, s8, s9, s10, s11], []⟩ := fun RX' => ev_eq0 (ev_op (x := .int ((1 : Nat) : Int)) (ev_eq0 (ev_call0 (eva_cons ev_c eva_nil) (cl_told12 (by decide +kernel) (by rw [t2]; decide))) (by rw [t2, read12]; rfl)) ev_c rr_eqI) rfl
      exact st_ret0 (x := .bl (true && true)) (ev_and (a1 (fun x ρ => RX x ρ.pa)) (fun _ => a2 (fun x ρ => RX x ρ.pa))) z
end DL

set_option Elab.async false
set_option linter.all false
set_option maxRecDepth 100000
set_option maxHeartbeats 4000000
namespace DL
open PySem PySem.Spec PyProof.Rows L2 RZ
def top (i : Nat) : Stmt := PySem.Challenge.pw_postchase_k12_texts_there_and_back.main.body.getD i (.Pass ⟨0, 0, 0, 0⟩)
abbrev s_Game_eq : Stmt := inClass (top 19) 6
abbrev s_law_pick : Stmt := top 26
abbrev s_law_drawn : Stmt := top 27
abbrev s_law_draws : Stmt := top 25
abbrev s_is_integer : Stmt := top 15
abbrev s_is_from : Stmt := top 16
abbrev s_is_one_of : Stmt := top 17
abbrev s_is_untold : Stmt := top 18
abbrev s_Game_init : Stmt := inClass (top 19) 0
abbrev s_law_due_k12 : Stmt := top 30
abbrev s_law_made : Stmt := top 28
abbrev s_numbers : Stmt := top 22
abbrev s_read : Stmt := top 23
abbrev s_law_told_k12 : Stmt := top 31
abbrev s_law_words_of : Stmt := top 29
abbrev s_write : Stmt := top 21
abbrev s_law_k12 : Stmt := top 32
theorem sc_Game_eq : FnScope ["self", "other"] ["self", "other"] (defScope s_Game_eq) := ⟨rfl, rfl, rfl, by decide +kernel, rfl, by decide +kernel, by decide +kernel⟩
theorem sc_law_pick : FnScope ["_law_row", "_law_many", "_law_cell", "_law_found"] ["_law_row", "_law_many"] (defScope s_law_pick) := ⟨rfl, rfl, rfl, by decide +kernel, rfl, by decide +kernel, by decide +kernel⟩
theorem sc_law_drawn : FnScope ["_law_row", "_law_most", "_law_far", "_law_g"] ["_law_row", "_law_most", "_law_far"] (defScope s_law_drawn) := ⟨rfl, rfl, rfl, by decide +kernel, rfl, by decide +kernel, by decide +kernel⟩
theorem sc_law_draws : FnScope ["_law_script"] ["_law_script"] (defScope s_law_draws) := ⟨rfl, rfl, rfl, by decide +kernel, rfl, by decide +kernel, by decide +kernel⟩
theorem sc_is_integer : FnScope ["value"] ["value"] (defScope s_is_integer) := ⟨rfl, rfl, rfl, by decide +kernel, rfl, by decide +kernel, by decide +kernel⟩
theorem sc_is_from : FnScope ["value", "low", "high"] ["value", "low", "high"] (defScope s_is_from) := ⟨rfl, rfl, rfl, by decide +kernel, rfl, by decide +kernel, by decide +kernel⟩
theorem sc_is_one_of : FnScope ["value", "some"] ["value", "some"] (defScope s_is_one_of) := ⟨rfl, rfl, rfl, by decide +kernel, rfl, by decide +kernel, by decide +kernel⟩
theorem sc_is_untold : FnScope ["shape", "catchers", "sight"] ["shape", "catchers", "sight"] (defScope s_is_untold) := ⟨rfl, rfl, rfl, by decide +kernel, rfl, by decide +kernel, by decide +kernel⟩
theorem sc_Game_init : FnScope ["self", "shape", "catchers", "reach", "flight", "sight"] ["self", "shape", "catchers", "reach", "flight", "sight"] (defScope s_Game_init) := ⟨rfl, rfl, rfl, by decide +kernel, rfl, by decide +kernel, by decide +kernel⟩
theorem sc_law_due_k12 : FnScope ["_law_words", "_law_lists", "_law_k"] ["_law_words"] (defScope s_law_due_k12) := ⟨rfl, rfl, rfl, by decide +kernel, rfl, by decide +kernel, by decide +kernel⟩
theorem sc_law_made : FnScope ["_law_g"] ["_law_g"] (defScope s_law_made) := ⟨rfl, rfl, rfl, by decide +kernel, rfl, by decide +kernel, by decide +kernel⟩
theorem sc_numbers : FnScope ["low", "high", "number"] ["low", "high"] (defScope s_numbers) := ⟨rfl, rfl, rfl, by decide +kernel, rfl, by decide +kernel, by decide +kernel⟩
theorem sc_read : FnScope ["text", "words", "due", "index", "some", "word"] ["text"] (defScope s_read) := ⟨rfl, rfl, rfl, by decide +kernel, rfl, by decide +kernel, by decide +kernel⟩
theorem sc_law_told_k12 : FnScope ["_law_text", "_law_told_here", "e"] ["_law_text"] (defScope s_law_told_k12) := ⟨rfl, rfl, rfl, by decide +kernel, rfl, by decide +kernel, by decide +kernel⟩
theorem sc_law_words_of : FnScope ["_law_g"] ["_law_g"] (defScope s_law_words_of) := ⟨rfl, rfl, rfl, by decide +kernel, rfl, by decide +kernel, by decide +kernel⟩
theorem sc_write : FnScope ["game"] ["game"] (defScope s_write) := ⟨rfl, rfl, rfl, by decide +kernel, rfl, by decide +kernel, by decide +kernel⟩
theorem sc_law_k12 : FnScope ["_law_script", "_law_row", "_law_odd", "_law_turn", "_law_g", "_law_game", "_law_words", "_law_loose", "_law_word", "_law_k", "_law_at", "_law_turn_of"] ["_law_script"] (defScope s_law_k12) := ⟨rfl, rfl, rfl, by decide +kernel, rfl, by decide +kernel, by decide +kernel⟩
structure Txt (P : Program) (k : Kx) (mg : Str → Option Value) : Prop where
  on : k.ex = true
  f_Game_eq : EDef k.K (k.cl "Game") "__eq__" "Game.__eq__" s_Game_eq ["self", "other"]
  f_law_pick : Def k.K mg "_law_pick" s_law_pick ["_law_row", "_law_many"]
  f_law_drawn : Def k.K mg "_law_drawn" s_law_drawn ["_law_row", "_law_most", "_law_far"]
  f_law_draws : Def k.K mg "_law_draws" s_law_draws ["_law_script"]
  f_is_integer : Def k.K mg "is_integer" s_is_integer ["value"]
  f_is_from : Def k.K mg "is_from" s_is_from ["value", "low", "high"]
  f_is_one_of : Def k.K mg "is_one_of" s_is_one_of ["value", "some"]
  f_is_untold : Def k.K mg "is_untold" s_is_untold ["shape", "catchers", "sight"]
  f_Game_init : MDef k.K mg "Game" (k.cl "Game") "Game.__init__" s_Game_init ["self", "shape", "catchers", "reach", "flight", "sight"]
  f_law_due_k12 : Def k.K mg "_law_due" s_law_due_k12 ["_law_words"]
  f_law_made : Def k.K mg "_law_made" s_law_made ["_law_g"]
  f_numbers : Def k.K mg "numbers" s_numbers ["low", "high"]
  f_read : Def k.K mg "read" s_read ["text"]
  f_law_told_k12 : Def k.K mg "_law_told" s_law_told_k12 ["_law_text"]
  f_law_words_of : Def k.K mg "_law_words_of" s_law_words_of ["_law_g"]
  f_write : Def k.K mg "write" s_write ["game"]
  f_law_k12 : Def k.K mg "law" s_law_k12 ["_law_script"]
  v_RING : ∃ u, mg "RING" = some u ∧ RelV (.str "ring") u
  v_SHAPES : KTup k.K mg "SHAPES" (.tup [(.str "path"), (.str "ring")])
  v_NEVER : ∃ u, mg "NEVER" = some u ∧ RelV (.str "never") u
  v_SIGHTS : KTup k.K mg "SIGHTS" (.tup [(.str "always"), (.str "never")])
  v_MOST_CATCHERS : ∃ u, mg "MOST_CATCHERS" = some u ∧ RelV (.int 6) u
  v_MOST_STEPS : ∃ u, mg "MOST_STEPS" = some u ∧ RelV (.int 5) u
  b_bool : mg "bool" = none
  b_enumerate : mg "enumerate" = none
  b_int : mg "int" = none
  b_isinstance : mg "isinstance" = none
  b_len : mg "len" = none
  b_list : mg "list" = none
  b_range : mg "range" = none
  b_str : mg "str" = none
  gk : GmK k
  c_Game : mg "Game" = some (.ref (k.cl "Game"))
  eqk : EqK k
  nek : PySem.W.findIn k.K (.ref (k.cl "Game")) "__ne__" = some (some (.builtin "object.__ne__"))
  nem : PySem.W.mroIn k.K (k.cl "Game") (.type "object") = some true
  sup : mg "super" = none
  c_BadCatchers : mg "BadCatchers" = some (.ref (k.cl "BadCatchers"))
  c_BadFlight : mg "BadFlight" = some (.ref (k.cl "BadFlight"))
  c_BadReach : mg "BadReach" = some (.ref (k.cl "BadReach"))
  c_BadShape : mg "BadShape" = some (.ref (k.cl "BadShape"))
  c_BadSight : mg "BadSight" = some (.ref (k.cl "BadSight"))
  c_BadWord : mg "BadWord" = some (.ref (k.cl "BadWord"))
  c_ChaseError : mg "ChaseError" = some (.ref (k.cl "ChaseError"))
  e_BadCatchers : PySem.DQ.ErT P k.K (k.cl "BadCatchers")
  xc_BadCatchers : ExcC k.K (k.cl "BadCatchers")
  xm_BadCatchers_BadWord : PySem.W.exmOne k.K (.ref (k.cl "BadCatchers")) (.ref (k.cl "BadWord")) = some false
  ki_BadCatchers_ChaseError : PySem.W.kitOne k.K (.ref (k.cl "BadCatchers")) (.ref (k.cl "ChaseError")) = some true
  e_BadFlight : PySem.DQ.ErT P k.K (k.cl "BadFlight")
  xc_BadFlight : ExcC k.K (k.cl "BadFlight")
  xm_BadFlight_BadWord : PySem.W.exmOne k.K (.ref (k.cl "BadFlight")) (.ref (k.cl "BadWord")) = some false
  ki_BadFlight_ChaseError : PySem.W.kitOne k.K (.ref (k.cl "BadFlight")) (.ref (k.cl "ChaseError")) = some true
  e_BadReach : PySem.DQ.ErT P k.K (k.cl "BadReach")
  xc_BadReach : ExcC k.K (k.cl "BadReach")
  xm_BadReach_BadWord : PySem.W.exmOne k.K (.ref (k.cl "BadReach")) (.ref (k.cl "BadWord")) = some false
  ki_BadReach_ChaseError : PySem.W.kitOne k.K (.ref (k.cl "BadReach")) (.ref (k.cl "ChaseError")) = some true
  e_BadShape : PySem.DQ.ErT P k.K (k.cl "BadShape")
  xc_BadShape : ExcC k.K (k.cl "BadShape")
  xm_BadShape_BadWord : PySem.W.exmOne k.K (.ref (k.cl "BadShape")) (.ref (k.cl "BadWord")) = some false
  ki_BadShape_ChaseError : PySem.W.kitOne k.K (.ref (k.cl "BadShape")) (.ref (k.cl "ChaseError")) = some true
  e_BadSight : PySem.DQ.ErT P k.K (k.cl "BadSight")
  xc_BadSight : ExcC k.K (k.cl "BadSight")
  xm_BadSight_BadWord : PySem.W.exmOne k.K (.ref (k.cl "BadSight")) (.ref (k.cl "BadWord")) = some false
  ki_BadSight_ChaseError : PySem.W.kitOne k.K (.ref (k.cl "BadSight")) (.ref (k.cl "ChaseError")) = some true
  e1_BadWord : PySem.DQ.ErT1 P k.K (k.cl "BadWord")
  xf_BadWord : XfC k.K (k.cl "BadWord")
  xi_BadWord : PySem.W.findIn k.K (.ref (k.cl "BadWord")) "index" = some none
  xc_BadWord : ExcC k.K (k.cl "BadWord")
  xm_BadWord_BadWord : PySem.W.exmOne k.K (.ref (k.cl "BadWord")) (.ref (k.cl "BadWord")) = some true
  ki_BadWord_ChaseError : PySem.W.kitOne k.K (.ref (k.cl "BadWord")) (.ref (k.cl "ChaseError")) = some true
section
variable {P : Program} {w : World} {k : Kx} {mg : Str → Option Value} {base : Heap}
theorem w_Game_eq (T : Txt P k mg) : MetC P w k.K mg base (k.cl "Game") "__eq__" ["self", "other"] 2 (g_Game_eq k) := by
  have rk : Rok 2 0 (g_Game_eq k) (t_Game_eq k) := (r_Game_eq k T.gk T.eqk)
  refine T.f_Game_eq.ok sc_Game_eq rk.len rfl fun f cdv A outer s H E F B pa RX hr tk => ?_
  have h65 := u65 hr
  have h64 := Nat.lt_of_le_of_lt (Nat.add_le_add_left (by decide : 64 ≤ 65) _) h65
  have h1 := Nat.lt_of_le_of_lt (Nat.add_le_add_left (by decide : 1 ≤ 65) _) h65
  exact ⟨t_Game_eq k (fun x ρ => RX x ρ.pa), (ds_cons (ds_if (d_pw (d_wor (d_tnot (d_tval (d_cb c_isi rfl T.b_isinstance PyProof.Rows.Boot.«isinstance» (da_cons (d_var 1) (da_cons (d_glC T.c_Game) da_nil))))) (d_wor (d_tcmp (o_ne h64) (d_fld (d_var 0)) (d_fld (d_var 1))) (d_wor1 (d_tcmp (o_ne h64) (d_fld (d_var 0)) (d_fld (d_var 1))))))) (ds_one (ds_ret (d_bl))) ds_nil)
      (ds_one (ds_ret (d_and (d_cmp (o_eq h64) (d_fld (d_var 0)) (d_fld (d_var 1))) (d_and (d_cmp (o_eq h64) (d_fld (d_var 0)) (d_fld (d_var 1))) (d_one (d_cmp (o_eq h64) (d_fld (d_var 0)) (d_fld (d_var 1))))))))), fun qs π R h => rk.run qs π R RX h⟩
theorem w_law_pick (T : Txt P k mg) : Cal P w k.K mg base "_law_pick" ["_law_row", "_law_many"] 2 (rowG' gp_pick) := by
  have rk : Rok 2 2 (rowG' gp_pick) (t_law_pick k) := (by first | exact r_law_pick k | exact r_law_pick k T.gk | exact r_law_pick k T.gk T.hk)
  refine T.f_law_pick.ok sc_law_pick rk.len rfl fun f cdv A outer s H E F B pa RX hr tk => ?_
  have h65 := u65 hr
  have h64 := Nat.lt_of_le_of_lt (Nat.add_le_add_left (by decide : 64 ≤ 65) _) h65
  have h1 := Nat.lt_of_le_of_lt (Nat.add_le_add_left (by decide : 1 ≤ 65) _) h65
  exact ⟨t_law_pick k (fun x ρ => RX x ρ.pa), (ds_cons (ds_if (d_tcmp (o_eq h64) (d_ixT 0 (d_int)) (d_int)) (ds_one (ds_if (d_tcmp o_lt (d_ixT 0 (d_int)) (d_cb (c_len) rfl T.b_len PyProof.Rows.Boot.«len» (da_cons (d_ixT 0 (d_int)) da_nil))) (ds_cons (ds_set 2 (d_ix (d_ixT 0 (d_int)) (d_ixT 0 (d_int))) sc_law_pick.nd)
      (ds_cons (ds_stT 0 (d_op o_add (d_ixT 0 (d_int)) (d_int)) (d_int))
      (ds_one (ds_if (d_tcmp o_ge (d_var 2) (d_op o_pow (d_int) (d_int))) (ds_one (ds_stT 0 (d_var 2) (d_int))) (ds_one (ds_stT 0 (d_op o_mod (d_cty c_int rfl T.b_int PyProof.Rows.Boot.«int» (da_cons (d_op o_add (d_op o_add (d_op o_mul (d_ixT 0 (d_int)) (d_int)) (d_op o_mul (d_var 2) (d_int))) (d_int)) da_nil)) (d_int)) (d_int))))))) (ds_one (ds_stT 0 (d_op o_mod (d_cty c_int rfl T.b_int PyProof.Rows.Boot.«int» (da_cons (d_op o_add (d_op o_mul (d_ixT 0 (d_int)) (d_int)) (d_int)) da_nil)) (d_int)) (d_int))))) ds_nil)
      (ds_cons (ds_if (d_tcmp o_gt (d_ixT 0 (d_int)) (d_int)) (ds_cons (ds_set 3 (d_op o_mod (d_cty c_int rfl T.b_int PyProof.Rows.Boot.«int» (da_cons (d_ixT 0 (d_int)) da_nil)) (d_var 1)) sc_law_pick.nd)
      (ds_cons (ds_stT 0 (d_op o_div (d_ixT 0 (d_int)) (d_var 1)) (d_int))
      (ds_one (ds_ret (d_var 3))))) ds_nil)
      (ds_one (ds_ret (d_op o_mod (d_op o_mod (d_cty c_int rfl T.b_int PyProof.Rows.Boot.«int» (da_cons (d_op o_mul (d_ixT 0 (d_int)) (d_int)) da_nil)) (d_int)) (d_var 1)))))), fun qs π R h => rk.run qs π R RX h⟩
theorem w_law_drawn (T : Txt P k mg) (C_law_pick : Cal P w k.K mg base "_law_pick" ["_law_row", "_law_many"] 2 (g_law_pick k)) : Cal P w k.K mg base "_law_drawn" ["_law_row", "_law_most", "_law_far"] 3 (g_law_drawn k) := by
  have rk : Rok 3 1 (g_law_drawn k) (t_law_drawn k) := (by first | exact r_law_drawn k | exact r_law_drawn k T.gk | exact r_law_drawn k T.gk T.hk)
  refine T.f_law_drawn.ok sc_law_drawn rk.len rfl fun f cdv A outer s H E F B pa RX hr tk => ?_
  have h65 := u65 hr
  have h64 := Nat.lt_of_le_of_lt (Nat.add_le_add_left (by decide : 64 ≤ 65) _) h65
  have h1 := Nat.lt_of_le_of_lt (Nat.add_le_add_left (by decide : 1 ≤ 65) _) h65
  exact ⟨t_law_drawn k (fun x ρ => RX x ρ.pa), (ds_cons (ds_setO 3 (d_dispO (dp_cons (d_str) (d_ix (d_lst (da_cons (d_str) (da_cons (d_str) da_nil))) (d_cal1 0 C_law_pick (hr.mono (by decide)) takes_not (da_cons (d_int) da_nil))) (dp_cons (d_str) (d_op o_add (d_int) (d_cal1 0 C_law_pick (hr.mono (by decide)) takes_not (da_cons (d_var 1) da_nil))) dp_nil))) sc_law_drawn.nd)
      (ds_cons (ds_asg (d_tup (da_cons (d_op o_add (d_int) (d_cal1 0 C_law_pick (hr.mono (by decide)) takes_not (da_cons (d_var 2) da_nil))) (da_cons (d_cal1 0 C_law_pick (hr.mono (by decide)) takes_not (da_cons (d_int) da_nil)) da_nil))) (dg_tup rfl (dgs_cons (dg_put 3 h1 (d_str)) (dgs_cons (dg_put 3 h1 (d_str)) dgs_nil))))
      (ds_cons (ds_asg (d_ix (d_lst (da_cons (d_str) (da_cons (d_str) da_nil))) (d_cal1 0 C_law_pick (hr.mono (by decide)) takes_not (da_cons (d_int) da_nil))) (dg_put 3 h1 (d_str)))
      (ds_cons (ds_if (d_pw (d_wand (d_tcmp (o_eq h64) (d_getO 3 h1 (d_str)) (d_str)) (d_wand (d_tcmp (o_eq h64) (d_getO 3 h1 (d_str)) (d_str)) (d_wand1 (d_tcmp (o_in h65) (d_getO 3 h1 (d_str)) (d_lst (da_cons (d_int) (da_cons (d_int) da_nil)))))))) (ds_one (ds_asg (d_op o_sub (d_getO 3 h1 (d_str)) (d_int)) (dg_put 3 h1 (d_str)))) ds_nil)
      (ds_one (ds_retO (d_varO 3))))))), fun qs π R h => rk.run qs π R RX h⟩
theorem w_law_draws (T : Txt P k mg) : Cal P w k.K mg base "_law_draws" ["_law_script"] 2 (mkG' gp_draws) := by
  have rk : Rok 1 0 (mkG' gp_draws) (t_law_draws k) := (by first | exact r_law_draws k | exact r_law_draws k T.gk | exact r_law_draws k T.gk T.hk)
  refine T.f_law_draws.ok sc_law_draws rk.len rfl fun f cdv A outer s H E F B pa RX hr tk => ?_
  have h65 := u65 hr
  have h64 := Nat.lt_of_le_of_lt (Nat.add_le_add_left (by decide : 64 ≤ 65) _) h65
  have h1 := Nat.lt_of_le_of_lt (Nat.add_le_add_left (by decide : 1 ≤ 65) _) h65
  exact ⟨t_law_draws k (fun x ρ => RX x ρ.pa), (ds_one (ds_retO (d_lstO (da_cons (d_cty c_list rfl T.b_list PyProof.Rows.Boot.«list» (da_cons (d_var 0) da_nil)) (da_cons (d_int) (da_cons (d_int) (da_cons (d_int) da_nil))))))), fun qs π R h => rk.run qs π R RX h⟩
theorem w_is_integer (T : Txt P k mg) : Cal P w k.K mg base "is_integer" ["value"] 2 (g_is_integer k) := by
  have rk : Rok 1 0 (g_is_integer k) (t_is_integer k) := (by first | exact r_is_integer k | exact r_is_integer k T.gk | exact r_is_integer k T.gk T.hk)
  refine T.f_is_integer.ok sc_is_integer rk.len rfl fun f cdv A outer s H E F B pa RX hr tk => ?_
  have h65 := u65 hr
  have h64 := Nat.lt_of_le_of_lt (Nat.add_le_add_left (by decide : 64 ≤ 65) _) h65
  have h1 := Nat.lt_of_le_of_lt (Nat.add_le_add_left (by decide : 1 ≤ 65) _) h65
  exact ⟨t_is_integer k (fun x ρ => RX x ρ.pa), (ds_one (ds_ret (d_and (d_cb c_isi rfl T.b_isinstance PyProof.Rows.Boot.«isinstance» (da_cons (d_var 0) (da_cons (d_ty T.b_int PyProof.Rows.Boot.«int») da_nil))) (d_one (d_not (d_cb c_isi rfl T.b_isinstance PyProof.Rows.Boot.«isinstance» (da_cons (d_var 0) (da_cons (d_ty T.b_bool PyProof.Rows.Boot.«bool») da_nil)))))))), fun qs π R h => rk.run qs π R RX h⟩
theorem w_is_from (T : Txt P k mg) (C_is_integer : Cal P w k.K mg base "is_integer" ["value"] 2 (g_is_integer k)) : Cal P w k.K mg base "is_from" ["value", "low", "high"] 3 (g_is_from k) := by
  have rk : Rok 3 0 (g_is_from k) (t_is_from k) := (by first | exact r_is_from k | exact r_is_from k T.gk | exact r_is_from k T.gk T.hk)
  refine T.f_is_from.ok sc_is_from rk.len rfl fun f cdv A outer s H E F B pa RX hr tk => ?_
  have h65 := u65 hr
  have h64 := Nat.lt_of_le_of_lt (Nat.add_le_add_left (by decide : 64 ≤ 65) _) h65
  have h1 := Nat.lt_of_le_of_lt (Nat.add_le_add_left (by decide : 1 ≤ 65) _) h65
  exact ⟨t_is_from k (fun x ρ => RX x ρ.pa), (ds_one (ds_ret (d_and (d_cal C_is_integer (hr.mono (by decide)) tk (da_cons (d_var 0) da_nil)) (d_one (d_chain o_le o_le (d_var 1) (d_var 0) (d_var 2)))))), fun qs π R h => rk.run qs π R RX h⟩
theorem w_is_one_of (T : Txt P k mg) : Cal P w k.K mg base "is_one_of" ["value", "some"] 2 (g_is_one_of k) := by
  have rk : Rok 2 0 (g_is_one_of k) (t_is_one_of k) := (by first | exact r_is_one_of k | exact r_is_one_of k T.gk | exact r_is_one_of k T.gk T.hk)
  refine T.f_is_one_of.ok sc_is_one_of rk.len rfl fun f cdv A outer s H E F B pa RX hr tk => ?_
  have h65 := u65 hr
  have h64 := Nat.lt_of_le_of_lt (Nat.add_le_add_left (by decide : 64 ≤ 65) _) h65
  have h1 := Nat.lt_of_le_of_lt (Nat.add_le_add_left (by decide : 1 ≤ 65) _) h65
  exact ⟨t_is_one_of k (fun x ρ => RX x ρ.pa), (ds_one (ds_ret (d_and (d_cb c_isi rfl T.b_isinstance PyProof.Rows.Boot.«isinstance» (da_cons (d_var 0) (da_cons (d_ty T.b_str PyProof.Rows.Boot.«str») da_nil))) (d_one (d_cmp (o_in h65) (d_var 0) (d_var 1)))))), fun qs π R h => rk.run qs π R RX h⟩
theorem w_is_untold (T : Txt P k mg) : Cal P w k.K mg base "is_untold" ["shape", "catchers", "sight"] 2 (g_is_untold k) := by
  have rk : Rok 3 0 (g_is_untold k) (t_is_untold k) := (by first | exact r_is_untold k | exact r_is_untold k T.gk | exact r_is_untold k T.gk T.hk)
  refine T.f_is_untold.ok sc_is_untold rk.len rfl fun f cdv A outer s H E F B pa RX hr tk => ?_
  have h65 := u65 hr
  have h64 := Nat.lt_of_le_of_lt (Nat.add_le_add_left (by decide : 64 ≤ 65) _) h65
  have h1 := Nat.lt_of_le_of_lt (Nat.add_le_add_left (by decide : 1 ≤ 65) _) h65
  exact ⟨t_is_untold k (fun x ρ => RX x ρ.pa), (ds_one (ds_ret (d_and (d_cmp (o_eq h64) (d_var 0) (d_glS T.v_RING)) (d_and (d_cmp (o_eq h64) (d_var 2) (d_glS T.v_NEVER)) (d_and (d_cmp o_gt (d_var 1) (d_int)) (d_one (d_cmp (o_eq h64) (d_op o_mod (d_var 1) (d_int)) (d_int)))))))), fun qs π R h => rk.run qs π R RX h⟩
theorem w_Game_init (T : Txt P k mg) (C_is_from : Cal P w k.K mg base "is_from" ["value", "low", "high"] 3 (g_is_from k)) (C_is_one_of : Cal P w k.K mg base "is_one_of" ["value", "some"] 2 (g_is_one_of k)) (C_is_untold : Cal P w k.K mg base "is_untold" ["shape", "catchers", "sight"] 2 (g_is_untold k)) : Mak P w k.K mg base "Game" (k.cl "Game") ["self", "shape", "catchers", "reach", "flight", "sight"] 4 (g_Game_init k) := by
  have rk : Rok 6 0 (g_Game_init k) (t_Game_init k) := (by first | exact r_Game_init k | exact r_Game_init k T.gk | exact r_Game_init k T.gk T.hk)
  refine T.f_Game_init.ok sc_Game_init rk.len rfl fun f cdv A outer s H E F B pa RX hr tk => ?_
  have h65 := u65 hr
  have h64 := Nat.lt_of_le_of_lt (Nat.add_le_add_left (by decide : 64 ≤ 65) _) h65
  have h1 := Nat.lt_of_le_of_lt (Nat.add_le_add_left (by decide : 1 ≤ 65) _) h65
  exact ⟨t_Game_init k (fun x ρ => RX x ρ.pa), (ds_cons (ds_if (d_tnot (d_tval (d_cal C_is_one_of (hr.mono (by decide)) tk (da_cons (d_var 1) (da_cons (d_glT T.v_SHAPES) da_nil))))) (ds_one (ds_raise0 T.on T.e_BadShape hr T.c_BadShape T.sup rfl tk)) ds_nil)
      (ds_cons (ds_if (d_tnot (d_tval (d_cal C_is_from (hr.mono (by decide)) tk (da_cons (d_var 2) (da_cons (d_int) (da_cons (d_glI T.v_MOST_CATCHERS) da_nil)))))) (ds_one (ds_raise0 T.on T.e_BadCatchers hr T.c_BadCatchers T.sup rfl tk)) ds_nil)
      (ds_cons (ds_if (d_tnot (d_tval (d_cal C_is_from (hr.mono (by decide)) tk (da_cons (d_var 3) (da_cons (d_int) (da_cons (d_glI T.v_MOST_STEPS) da_nil)))))) (ds_one (ds_raise0 T.on T.e_BadReach hr T.c_BadReach T.sup rfl tk)) ds_nil)
      (ds_cons (ds_if (d_tnot (d_tval (d_cal C_is_from (hr.mono (by decide)) tk (da_cons (d_var 4) (da_cons (d_int) (da_cons (d_glI T.v_MOST_STEPS) da_nil)))))) (ds_one (ds_raise0 T.on T.e_BadFlight hr T.c_BadFlight T.sup rfl tk)) ds_nil)
      (ds_cons (ds_if (d_tnot (d_tval (d_cal C_is_one_of (hr.mono (by decide)) tk (da_cons (d_var 5) (da_cons (d_glT T.v_SIGHTS) da_nil))))) (ds_one (ds_raise0 T.on T.e_BadSight hr T.c_BadSight T.sup rfl tk)) ds_nil)
      (ds_cons (ds_if (d_tval (d_cal C_is_untold (hr.mono (by decide)) tk (da_cons (d_var 1) (da_cons (d_var 2) (da_cons (d_var 5) da_nil))))) (ds_one (ds_raise0 T.on T.e_BadCatchers hr T.c_BadCatchers T.sup rfl tk)) ds_nil)
      (ds_cons (ds_fldP 0 (d_var 1))
      (ds_cons (ds_fldP 0 (d_var 2))
      (ds_cons (ds_fldP 0 (d_var 3))
      (ds_cons (ds_fldP 0 (d_var 4))
      (ds_one (ds_fldP 0 (d_var 5))))))))))))), fun qs π R h => rk.run qs π R RX h⟩
theorem w_law_due_k12 (T : Txt P k mg) (C_Game_init : Mak P w k.K mg base "Game" (k.cl "Game") ["self", "shape", "catchers", "reach", "flight", "sight"] 4 (g_Game_init k)) : Cal P w k.K mg base "_law_due" ["_law_words"] 6 (g_law_due_k12 k) := by
  have rk : Rok 1 2 (g_law_due_k12 k) (t_law_due_k12 k) := (by first | exact r_law_due_k12 k | exact r_law_due_k12 k T.gk | exact r_law_due_k12 k T.gk T.hk)
  refine T.f_law_due_k12.ok sc_law_due_k12 rk.len rfl fun f cdv A outer s H E F B pa RX hr tk => ?_
  have h65 := u65 hr
  have h64 := Nat.lt_of_le_of_lt (Nat.add_le_add_left (by decide : 64 ≤ 65) _) h65
  have h1 := Nat.lt_of_le_of_lt (Nat.add_le_add_left (by decide : 1 ≤ 65) _) h65
  exact ⟨t_law_due_k12 k (fun x ρ => RX x ρ.pa), (ds_cons (ds_set 1 (d_lst (da_cons (d_lst (da_cons (d_str) da_nil)) (da_cons (d_lst (da_cons (d_str) (da_cons (d_str) da_nil))) (da_cons (d_lst (da_cons (d_str) (da_cons (d_str) (da_cons (d_str) (da_cons (d_str) (da_cons (d_str) (da_cons (d_str) da_nil))))))) (da_cons (d_lst (da_cons (d_str) (da_cons (d_str) (da_cons (d_str) (da_cons (d_str) (da_cons (d_str) da_nil)))))) da_nil))))) sc_law_due_k12.nd)
      (ds_cons (ds_set 1 (d_op o_add (d_var 1) (d_lst (da_cons (d_lst (da_cons (d_str) (da_cons (d_str) (da_cons (d_str) (da_cons (d_str) (da_cons (d_str) (da_cons (d_str) da_nil))))))) (da_cons (d_lst (da_cons (d_str) (da_cons (d_str) da_nil))) da_nil)))) sc_law_due_k12.nd)
      (ds_cons (ds_for (passes_of rfl) rfl (di_r1 rfl T.b_range (d_int)) (dg_name 2 sc_law_due_k12.nd) (ds_one (ds_if (d_tcmp (o_notin h65) (d_ix (d_op o_add (d_var 0) (d_op o_mul (d_lst (da_cons (d_str) da_nil)) (d_int))) (d_var 2)) (d_ix (d_var 1) (d_var 2))) (ds_one (ds_ret (d_op o_add (d_var 2) (d_int)))) ds_nil)))
      (ds_cons (ds_if (d_pw (d_wand (d_tcmp (o_eq h64) (d_ix (d_var 0) (d_int)) (d_str)) (d_wand (d_tcmp (o_in h65) (d_ix (d_var 0) (d_int)) (d_lst (da_cons (d_str) (da_cons (d_str) da_nil)))) (d_wand1 (d_tcmp (o_eq h64) (d_ix (d_var 0) (d_int)) (d_str)))))) (ds_one (ds_ret (d_int))) ds_nil)
      (ds_cons (ds_if (d_tcmp o_gt (d_cb (c_len) rfl T.b_len PyProof.Rows.Boot.«len» (da_cons (d_var 0) da_nil)) (d_int)) (ds_one (ds_ret (d_int))) ds_nil)
      (ds_one (ds_ret (d_still (d_makeO C_Game_init (hr.mono (by decide)) tk (da_cons (d_ix (d_var 0) (d_int)) (da_cons (d_cty c_int rfl T.b_int PyProof.Rows.Boot.«int» (da_cons (d_ix (d_var 0) (d_int)) da_nil)) (da_cons (d_cty c_int rfl T.b_int PyProof.Rows.Boot.«int» (da_cons (d_ix (d_var 0) (d_int)) da_nil)) (da_cons (d_cty c_int rfl T.b_int PyProof.Rows.Boot.«int» (da_cons (d_ix (d_var 0) (d_int)) da_nil)) (da_cons (d_ix (d_var 0) (d_int)) da_nil)))))))))))))), fun qs π R h => rk.run qs π R RX h⟩
theorem w_law_made (T : Txt P k mg) (C_Game_init : Mak P w k.K mg base "Game" (k.cl "Game") ["self", "shape", "catchers", "reach", "flight", "sight"] 4 (g_Game_init k)) : Cal P w k.K mg base "_law_made" ["_law_g"] 6 (g_law_made k) := by
  have rk : Rok 1 0 (g_law_made k) (t_law_made k) := (by first | exact r_law_made k | exact r_law_made k T.gk | exact r_law_made k T.gk T.hk)
  refine T.f_law_made.ok sc_law_made rk.len rfl fun f cdv A outer s H E F B pa RX hr tk => ?_
  have h65 := u65 hr
  have h64 := Nat.lt_of_le_of_lt (Nat.add_le_add_left (by decide : 64 ≤ 65) _) h65
  have h1 := Nat.lt_of_le_of_lt (Nat.add_le_add_left (by decide : 1 ≤ 65) _) h65
  exact ⟨t_law_made k (fun x ρ => RX x ρ.pa), (ds_one (ds_ret (d_still (d_makeO C_Game_init (hr.mono (by decide)) tk (da_cons (d_get h1 (d_var 0) (d_str)) (da_cons (d_get h1 (d_var 0) (d_str)) (da_cons (d_get h1 (d_var 0) (d_str)) (da_cons (d_get h1 (d_var 0) (d_str)) (da_cons (d_get h1 (d_var 0) (d_str)) da_nil))))))))), fun qs π R h => rk.run qs π R RX h⟩
theorem w_numbers (T : Txt P k mg) : Cal P w k.K mg base "numbers" ["low", "high"] 2 (g_numbers k) := by
  have rk : Rok 2 1 (g_numbers k) (t_numbers k) := (by first | exact r_numbers k | exact r_numbers k T.gk | exact r_numbers k T.gk T.hk)
  refine T.f_numbers.ok sc_numbers rk.len rfl fun f cdv A outer s H E F B pa RX hr tk => ?_
  have h65 := u65 hr
  have h64 := Nat.lt_of_le_of_lt (Nat.add_le_add_left (by decide : 64 ≤ 65) _) h65
  have h1 := Nat.lt_of_le_of_lt (Nat.add_le_add_left (by decide : 1 ≤ 65) _) h65
  exact ⟨t_numbers k (fun x ρ => RX x ρ.pa), (ds_one (ds_ret (d_lc rfl sc_numbers.nd (di_r2 rfl T.b_range (d_var 0) (d_op o_add (d_var 1) (d_int))) (own := [("number", 2)]) (blkOk_by (N := ["low", "high", "number"]) (sc := defScope s_numbers) (by decide +kernel)) (fun s H C cl fp => (dg_name 2 sc_numbers.nd)) (fun s H C cl fp => dts_nil) (fun s H C cl fp => (d_cty c_str rfl T.b_str PyProof.Rows.Boot.«str» (da_cons (d_var 2) da_nil))) (by decide)))), fun qs π R h => rk.run qs π R RX h⟩
theorem w_read (T : Txt P k mg) (C_Game_init : Mak P w k.K mg base "Game" (k.cl "Game") ["self", "shape", "catchers", "reach", "flight", "sight"] 4 (g_Game_init k)) (C_is_untold : Cal P w k.K mg base "is_untold" ["shape", "catchers", "sight"] 2 (g_is_untold k)) (C_numbers : Cal P w k.K mg base "numbers" ["low", "high"] 2 (g_numbers k)) : Cal P w k.K mg base "read" ["text"] 6 (g_read k) := by
  have rk : Rok 1 5 (g_read k) (t_read k) := (by first | exact r_read k | exact r_read k T.gk | exact r_read k T.gk T.hk)
  refine T.f_read.ok sc_read rk.len rfl fun f cdv A outer s H E F B pa RX hr tk => ?_
  have h65 := u65 hr
  have h64 := Nat.lt_of_le_of_lt (Nat.add_le_add_left (by decide : 64 ≤ 65) _) h65
  have h1 := Nat.lt_of_le_of_lt (Nat.add_le_add_left (by decide : 1 ≤ 65) _) h65
  exact ⟨t_read k (fun x ρ => RX x ρ.pa), (ds_cons (ds_setLc 1 rfl sc_read.nd rfl rfl rfl (di_list (d_split (d_var 0) (d_str))) (own := [("word", 5)]) (blkOk_by (N := ["text", "words", "due", "index", "some", "word"]) (sc := defScope s_read) (by decide +kernel)) (fun s H C cl fp => (dg_name 5 sc_read.nd)) (fun s H C cl fp => (dts_one (d_tcmp (o_ne h64) (d_var 5) (d_str)))) (fun s H C cl fp => (d_var 5)) (by decide))
      (ds_cons (ds_set 2 (d_lst (da_cons (d_lst (da_cons (d_str) da_nil)) (da_cons (d_glT T.v_SHAPES) (da_cons (d_cal C_numbers (hr.mono (by decide)) tk (da_cons (d_int) (da_cons (d_glI T.v_MOST_CATCHERS) da_nil))) (da_cons (d_cal C_numbers (hr.mono (by decide)) tk (da_cons (d_int) (da_cons (d_glI T.v_MOST_STEPS) da_nil))) (da_cons (d_cal C_numbers (hr.mono (by decide)) tk (da_cons (d_int) (da_cons (d_glI T.v_MOST_STEPS) da_nil))) (da_cons (d_glT T.v_SIGHTS) da_nil))))))) sc_read.nd)
      (ds_cons (ds_for (passes_of rfl) rfl (di_enum rfl T.b_enumerate (d_var 2)) (dg_tup rfl (dgs_cons (dg_name 3 sc_read.nd) (dgs_cons (dg_name 4 sc_read.nd) dgs_nil))) (ds_one (ds_if (d_pw (d_wor (d_tcmp o_ge (d_var 3) (d_cb (c_len) rfl T.b_len PyProof.Rows.Boot.«len» (da_cons (d_var 1) da_nil))) (d_wor1 (d_tcmp (o_notin h65) (d_ix (d_var 1) (d_var 3)) (d_var 4))))) (ds_one (ds_raise1 T.on T.e1_BadWord hr T.c_BadWord T.sup rfl tk (d_op o_add (d_var 3) (d_int)))) ds_nil)))
      (ds_cons (ds_if (d_tval (d_cal C_is_untold (hr.mono (by decide)) tk (da_cons (d_ix (d_var 1) (d_int)) (da_cons (d_cty c_int rfl T.b_int PyProof.Rows.Boot.«int» (da_cons (d_ix (d_var 1) (d_int)) da_nil)) (da_cons (d_ix (d_var 1) (d_int)) da_nil))))) (ds_one (ds_raise1 T.on T.e1_BadWord hr T.c_BadWord T.sup rfl tk (d_cb (c_len) rfl T.b_len PyProof.Rows.Boot.«len» (da_cons (d_var 2) da_nil)))) ds_nil)
      (ds_cons (ds_if (d_tcmp o_gt (d_cb (c_len) rfl T.b_len PyProof.Rows.Boot.«len» (da_cons (d_var 1) da_nil)) (d_cb (c_len) rfl T.b_len PyProof.Rows.Boot.«len» (da_cons (d_var 2) da_nil))) (ds_one (ds_raise1 T.on T.e1_BadWord hr T.c_BadWord T.sup rfl tk (d_op o_add (d_cb (c_len) rfl T.b_len PyProof.Rows.Boot.«len» (da_cons (d_var 2) da_nil)) (d_int)))) ds_nil)
      (ds_one (ds_ret (d_still (d_makeO C_Game_init (hr.mono (by decide)) tk (da_cons (d_ix (d_var 1) (d_int)) (da_cons (d_cty c_int rfl T.b_int PyProof.Rows.Boot.«int» (da_cons (d_ix (d_var 1) (d_int)) da_nil)) (da_cons (d_cty c_int rfl T.b_int PyProof.Rows.Boot.«int» (da_cons (d_ix (d_var 1) (d_int)) da_nil)) (da_cons (d_cty c_int rfl T.b_int PyProof.Rows.Boot.«int» (da_cons (d_ix (d_var 1) (d_int)) da_nil)) (da_cons (d_ix (d_var 1) (d_int)) da_nil)))))))))))))), fun qs π R h => rk.run qs π R RX h⟩
theorem w_law_told_k12 (T : Txt P k mg) (C_read : Cal P w k.K mg base "read" ["text"] 6 (g_read k)) : Cal P w k.K mg base "_law_told" ["_law_text"] 7 (g_law_told_k12 k) := by
  have rk : Rok 1 2 (g_law_told_k12 k) (t_law_told_k12 k) := (r_law_told_k12 k T.xm_BadWord_BadWord T.ki_BadWord_ChaseError T.xc_BadWord T.xf_BadWord T.xi_BadWord T.on)
  refine T.f_law_told_k12.ok sc_law_told_k12 rk.len rfl fun f cdv A outer s H E F B pa RX hr tk => ?_
  have h65 := u65 hr
  have h64 := Nat.lt_of_le_of_lt (Nat.add_le_add_left (by decide : 64 ≤ 65) _) h65
  have h1 := Nat.lt_of_le_of_lt (Nat.add_le_add_left (by decide : 1 ≤ 65) _) h65
  exact ⟨t_law_told_k12 k (fun x ρ => RX x ρ.pa), (ds_cons (ds_set 1 (d_non) sc_law_told_k12.nd)
      (ds_cons (ds_tryM (l := [(k.cl "BadWord", some 2, fun ea ed ex => (dSet 1 (dIf (dT (dIsEx k.K 2 ea ed ex (.ref (k.cl "ChaseError")))) (dXf k.K 2 ea ed ex) (dC (.str "another")))))]) (tb := fun RX1 => (dSet 1 (dCall (g_read k) RX1 (dCons (dVar 0) dNil)))) rfl rfl tk (fun F1 B1 RX1 pn xe tk1 po1 => (ds_one (ds_set 1 (d_cal C_read (hr.mono (by decide)) tk1 (da_cons (d_var 0) da_nil)) sc_law_told_k12.nd))) (.as 2 ⟨rfl, by decide, .inl T.c_BadWord⟩ (fun ea oe ex dd pn hz ok hv => (ds_one (ds_set 1 (d_ifExp (d_tval (d_isExC (C := k.cl "ChaseError") 2 hz ok hv T.b_isinstance T.c_ChaseError)) (d_xf 2 hz ok hv) (d_str)) sc_law_told_k12.nd))) .nil) sc_law_told_k12.nd)
      (ds_one (ds_ret (d_var 1))))), fun qs π R h => rk.run qs π R RX h⟩
theorem w_law_words_of (T : Txt P k mg) : Cal P w k.K mg base "_law_words_of" ["_law_g"] 2 (g_law_words_of k) := by
  have rk : Rok 1 0 (g_law_words_of k) (t_law_words_of k) := (by first | exact r_law_words_of k | exact r_law_words_of k T.gk | exact r_law_words_of k T.gk T.hk)
  refine T.f_law_words_of.ok sc_law_words_of rk.len rfl fun f cdv A outer s H E F B pa RX hr tk => ?_
  have h65 := u65 hr
  have h64 := Nat.lt_of_le_of_lt (Nat.add_le_add_left (by decide : 64 ≤ 65) _) h65
  have h1 := Nat.lt_of_le_of_lt (Nat.add_le_add_left (by decide : 1 ≤ 65) _) h65
  exact ⟨t_law_words_of k (fun x ρ => RX x ρ.pa), (ds_one (ds_ret (d_lst (da_cons (d_str) (da_cons (d_get h1 (d_var 0) (d_str)) (da_cons (d_cty c_str rfl T.b_str PyProof.Rows.Boot.«str» (da_cons (d_get h1 (d_var 0) (d_str)) da_nil)) (da_cons (d_cty c_str rfl T.b_str PyProof.Rows.Boot.«str» (da_cons (d_get h1 (d_var 0) (d_str)) da_nil)) (da_cons (d_cty c_str rfl T.b_str PyProof.Rows.Boot.«str» (da_cons (d_get h1 (d_var 0) (d_str)) da_nil)) (da_cons (d_get h1 (d_var 0) (d_str)) da_nil))))))))), fun qs π R h => rk.run qs π R RX h⟩
theorem w_write (T : Txt P k mg) : Cal P w k.K mg base "write" ["game"] 2 (g_write k) := by
  have rk : Rok 1 0 (g_write k) (t_write k) := (by first | exact r_write k | exact r_write k T.gk | exact r_write k T.gk T.hk)
  refine T.f_write.ok sc_write rk.len rfl fun f cdv A outer s H E F B pa RX hr tk => ?_
  have h65 := u65 hr
  have h64 := Nat.lt_of_le_of_lt (Nat.add_le_add_left (by decide : 64 ≤ 65) _) h65
  have h1 := Nat.lt_of_le_of_lt (Nat.add_le_add_left (by decide : 1 ≤ 65) _) h65
  exact ⟨t_write k (fun x ρ => RX x ρ.pa), (ds_one (ds_ret (d_fstr (dj_cons (d_str) (dj_cons (d_fmt (d_fld (d_var 0))) (dj_cons (d_str) (dj_cons (d_fmt (d_fld (d_var 0))) (dj_cons (d_str) (dj_cons (d_fmt (d_fld (d_var 0))) (dj_cons (d_str) (dj_cons (d_fmt (d_fld (d_var 0))) (dj_cons (d_str) (dj_cons (d_fmt (d_fld (d_var 0))) dj_nil))))))))))))), fun qs π R h => rk.run qs π R RX h⟩
theorem w_law_k12 (T : Txt P k mg) (C_Game_eq : MetC P w k.K mg base (k.cl "Game") "__eq__" ["self", "other"] 2 (g_Game_eq k)) (C_Game_eq : MetC P w k.K mg base (k.cl "Game") "__eq__" ["self", "other"] 2 (g_Game_eq k)) (C_law_drawn : Cal P w k.K mg base "_law_drawn" ["_law_row", "_law_most", "_law_far"] 3 (g_law_drawn k)) (C_law_draws : Cal P w k.K mg base "_law_draws" ["_law_script"] 2 (g_law_draws k)) (C_law_due_k12 : Cal P w k.K mg base "_law_due" ["_law_words"] 6 (g_law_due_k12 k)) (C_law_made : Cal P w k.K mg base "_law_made" ["_law_g"] 6 (g_law_made k)) (C_law_pick : Cal P w k.K mg base "_law_pick" ["_law_row", "_law_many"] 2 (g_law_pick k)) (C_law_told_k12 : Cal P w k.K mg base "_law_told" ["_law_text"] 7 (g_law_told_k12 k)) (C_law_words_of : Cal P w k.K mg base "_law_words_of" ["_law_g"] 2 (g_law_words_of k)) (C_read : Cal P w k.K mg base "read" ["text"] 6 (g_read k)) (C_write : Cal P w k.K mg base "write" ["game"] 2 (g_write k)) {f : Addr} {fd : FuncData} (F0 : Fun k.K "law" "law" s_law_k12 f fd) : FnD P w k.K mg base 8 f fd ["_law_script"] lawG := by
  have rk : Rok 1 11 lawG (t_law_k12 k) := (r_law_k12 k T.gk T.eqk T.nek T.nem T.on)
  refine fn_d F0 sc_law_k12 rk.len rfl fun cdv A outer s H E F B pa RX hr tk => ?_
  have h65 := u65 hr
  have h64 := Nat.lt_of_le_of_lt (Nat.add_le_add_left (by decide : 64 ≤ 65) _) h65
  have h1 := Nat.lt_of_le_of_lt (Nat.add_le_add_left (by decide : 1 ≤ 65) _) h65
  exact ⟨t_law_k12 k (fun x ρ => RX x ρ.pa), (ds_cons (ds_setO 1 (d_calO C_law_draws (hr.mono (by decide)) tk (da_cons (d_var 0) da_nil)) sc_law_k12.nd)
      (ds_cons (ds_set 2 (d_lst (da_cons (d_str) (da_cons (d_str) (da_cons (d_str) (da_cons (d_str) (da_cons (d_str) (da_cons (d_str) (da_cons (d_str) (da_cons (d_str) (da_cons (d_str) (da_cons (d_str) (da_cons (d_str) (da_cons (d_str) (da_cons (d_str) da_nil)))))))))))))) sc_law_k12.nd)
      (ds_cons (ds_for (passes_of rfl) rfl (di_r1 rfl T.b_range (d_int)) (dg_name 3 sc_law_k12.nd) (ds_cons (ds_set 4 (d_cal1 1 C_law_drawn (hr.mono (by decide)) takes_not (da_cons (d_int) (da_cons (d_int) da_nil))) sc_law_k12.nd)
      (ds_cons (ds_par 5 6 (dr_d (d_cal C_law_made (hr.mono (by decide)) tk (da_cons (d_var 4) da_nil))) (dr_d (d_cal C_law_words_of (hr.mono (by decide)) tk (da_cons (d_var 4) da_nil))) rfl sc_law_k12.nd)
      (ds_cons (ds_if (d_pw (d_wor (d_tcmp (o_ne h64) (d_cal C_write (hr.mono (by decide)) tk (da_cons (d_var 5) da_nil)) (d_join (d_str) (d_var 6))) (d_wor1 (d_tnot (d_tcmp (o_eqX C_Game_eq (hr.mono (by decide)) h64) (d_cal C_read (hr.mono (by decide)) tk (da_cons (d_join (d_str) (d_var 6)) da_nil)) (d_var 5)))))) (ds_one (ds_ret (d_bl))) ds_nil)
      (ds_cons (ds_set 7 (d_op o_mulS (d_str) (d_cal1 1 C_law_pick (hr.mono (by decide)) takes_not (da_cons (d_int) da_nil))) sc_law_k12.nd)
      (ds_cons (ds_for (passes_of rfl) rfl (di_list (d_var 6)) (dg_name 8 sc_law_k12.nd) (ds_one (ds_set 7 (d_op o_add (d_op o_add (d_var 7) (d_var 8)) (d_op o_mulS (d_str) (d_op o_add (d_int) (d_cal1 1 C_law_pick (hr.mono (by decide)) takes_not (da_cons (d_int) da_nil))))) sc_law_k12.nd)))
      (ds_cons (ds_if (d_pw (d_wor (d_tnot (d_tcmp (o_eqX C_Game_eq (hr.mono (by decide)) h64) (d_cal C_read (hr.mono (by decide)) tk (da_cons (d_var 7) da_nil)) (d_var 5))) (d_wor1 (d_tnot (d_tcmp (o_eqX C_Game_eq (hr.mono (by decide)) h64) (d_cal C_read (hr.mono (by decide)) tk (da_cons (d_stripC (d_var 7) (d_str)) da_nil)) (d_var 5)))))) (ds_one (ds_ret (d_bl))) ds_nil)
      (ds_cons (ds_for (passes_of rfl) rfl (di_r1 rfl T.b_range (d_op o_add (d_int) (d_cal1 1 C_law_pick (hr.mono (by decide)) takes_not (da_cons (d_int) da_nil)))) (dg_name 9 sc_law_k12.nd) (ds_cons (ds_par 10 11 (dr_d (d_cal1 1 C_law_pick (hr.mono (by decide)) takes_not (da_cons (d_op o_add (d_cb (c_len) rfl T.b_len PyProof.Rows.Boot.«len» (da_cons (d_var 6) da_nil)) (d_int)) da_nil))) (dr_d (d_cal1 1 C_law_pick (hr.mono (by decide)) takes_not (da_cons (d_int) da_nil))) rfl sc_law_k12.nd)
      (ds_one (ds_if (d_tcmp (o_eq h64) (d_var 11) (d_int)) (ds_one (ds_set 6 (d_op o_add (d_slH (d_var 6) (d_var 10)) (d_slG (d_var 6) (dp_some (d_op o_add (d_var 10) (d_int))) dp_none)) sc_law_k12.nd)) (ds_one (ds_if (d_tcmp (o_eq h64) (d_var 11) (d_int)) (ds_one (ds_set 6 (d_op o_add (d_op o_add (d_slH (d_var 6) (d_var 10)) (d_op o_mul (d_slG (d_var 6) (dp_some (d_var 10)) (dp_some (d_op o_add (d_var 10) (d_int)))) (d_int))) (d_slG (d_var 6) (dp_some (d_op o_add (d_var 10) (d_int))) dp_none)) sc_law_k12.nd)) (ds_one (ds_set 6 (d_op o_add (d_op o_add (d_slH (d_var 6) (d_var 10)) (d_lst (da_cons (d_ix (d_var 2) (d_cal1 1 C_law_pick (hr.mono (by decide)) takes_not (da_cons (d_int) da_nil))) da_nil))) (d_slG (d_var 6) (dp_some (d_op o_sub (d_op o_add (d_var 10) (d_var 11)) (d_int))) dp_none)) sc_law_k12.nd))))))))
      (ds_one (ds_if (d_tcmp (o_neX C_Game_eq (hr.mono (by decide)) h64) (d_cal C_law_told_k12 (hr.mono (by decide)) tk (da_cons (d_join (d_str) (d_var 6)) da_nil)) (d_cal C_law_due_k12 (hr.mono (by decide)) tk (da_cons (d_var 6) da_nil))) (ds_one (ds_ret (d_bl))) ds_nil))))))))))
      (ds_one (ds_ret (d_and (d_cmp (o_eq h64) (d_cal C_law_told_k12 (hr.mono (by decide)) tk (da_cons (d_str) da_nil)) (d_int)) (d_one (d_cmp (o_eq h64) (d_cal C_law_told_k12 (hr.mono (by decide)) tk (da_cons (d_str) da_nil)) (d_int))))))))), fun qs π R h => rk.run qs π R RX h⟩
end
theorem all_mk {l : PySem.W.OpenLaw} {w : World} {K : PySem.W.Frag} {h : Heap} {mg : Str → Option Value} {fa A_Game_eq A_law_pick A_law_drawn A_law_draws A_is_integer A_is_from A_is_one_of A_is_untold A_Game_init A_law_due_k12 A_law_made A_numbers A_read A_law_told_k12 A_law_words_of A_write A_law_k12 f_BadCatchers cc_BadCatchers cda_BadCatchers f_BadFlight cc_BadFlight cda_BadFlight f_BadReach cc_BadReach cda_BadReach f_BadShape cc_BadShape cda_BadShape f_BadSight cc_BadSight cda_BadSight f_BadWord cc_BadWord cda_BadWord A_SHAPES A_SIGHTS C_Game C_BadCatchers C_BadFlight C_BadReach C_BadShape C_BadSight C_BadWord C_ChaseError : Addr} {od_Game_eq od_law_pick od_law_drawn od_law_draws od_is_integer od_is_from od_is_one_of od_is_untold od_Game_init od_law_due_k12 od_law_made od_numbers od_read od_law_told_k12 od_law_words_of od_write od_law_k12 an_Game_eq an_law_pick an_law_drawn an_law_draws an_is_integer an_is_from an_is_one_of an_is_untold an_Game_init an_law_due_k12 an_law_made an_numbers an_read an_law_told_k12 an_law_words_of an_write an_law_k12 od_SHAPES od_SIGHTS : Option Addr} {sl_Game_eq sl_law_pick sl_law_drawn sl_law_draws sl_is_integer sl_is_from sl_is_one_of sl_is_untold sl_Game_init sl_law_due_k12 sl_law_made sl_numbers sl_read sl_law_told_k12 sl_law_words_of sl_write sl_law_k12 sl_SHAPES sl_SIGHTS : Array (Option Value)} {oc_Game_eq kV_Game_eq dc_Game_eq pm_Game_eq cd_Game_eq ct_Game_eq oc_law_pick kV_law_pick dc_law_pick pm_law_pick cd_law_pick ct_law_pick oc_law_drawn kV_law_drawn dc_law_drawn pm_law_drawn cd_law_drawn ct_law_drawn oc_law_draws kV_law_draws dc_law_draws pm_law_draws cd_law_draws ct_law_draws oc_is_integer kV_is_integer dc_is_integer pm_is_integer cd_is_integer ct_is_integer oc_is_from kV_is_from dc_is_from pm_is_from cd_is_from ct_is_from oc_is_one_of kV_is_one_of dc_is_one_of pm_is_one_of cd_is_one_of ct_is_one_of oc_is_untold kV_is_untold dc_is_untold pm_is_untold cd_is_untold ct_is_untold oc_Game_init kV_Game_init dc_Game_init pm_Game_init cd_Game_init ct_Game_init oc_law_due_k12 kV_law_due_k12 dc_law_due_k12 pm_law_due_k12 cd_law_due_k12 ct_law_due_k12 oc_law_made kV_law_made dc_law_made pm_law_made cd_law_made ct_law_made oc_numbers kV_numbers dc_numbers pm_numbers cd_numbers ct_numbers oc_read kV_read dc_read pm_read cd_read ct_read oc_law_told_k12 kV_law_told_k12 dc_law_told_k12 pm_law_told_k12 cd_law_told_k12 ct_law_told_k12 oc_law_words_of kV_law_words_of dc_law_words_of pm_law_words_of cd_law_words_of ct_law_words_of oc_write kV_write dc_write pm_write cd_write ct_write oc_law_k12 kV_law_k12 dc_law_k12 pm_law_k12 cd_law_k12 ct_law_k12 u_RING u_NEVER u_MOST_CATCHERS u_MOST_STEPS : Value} {its_SHAPES : Array Value} {n_SHAPES : Nat} {its_SIGHTS : Array Value} {n_SIGHTS : Nat} {nm_BadCatchers qn_BadCatchers file_BadCatchers : Str} {N_BadCatchers : Addr} {bs_BadCatchers bm_BadCatchers sub_BadCatchers : List Value} {sn_BadCatchers : List Str} {ab_BadCatchers : Bool} {col_BadCatchers : Option Bool} {dd_BadCatchers od_BadCatchers an_BadCatchers cdd_BadCatchers cld_BadCatchers : Option Addr} {k0_BadCatchers k1_BadCatchers k2_BadCatchers k3_BadCatchers k5_BadCatchers : Option Value} {oc_BadCatchers kV_BadCatchers dc_BadCatchers pm_BadCatchers ct_BadCatchers ccl_BadCatchers cl_BadCatchers : Value} {osl_BadCatchers ccs_BadCatchers csl_BadCatchers : Array (Option Value)} {vs_BadCatchers : Array Value} {tf_BadCatchers : Tok} {nm_BadFlight qn_BadFlight file_BadFlight : Str} {N_BadFlight : Addr} {bs_BadFlight bm_BadFlight sub_BadFlight : List Value} {sn_BadFlight : List Str} {ab_BadFlight : Bool} {col_BadFlight : Option Bool} {dd_BadFlight od_BadFlight an_BadFlight cdd_BadFlight cld_BadFlight : Option Addr} {k0_BadFlight k1_BadFlight k2_BadFlight k3_BadFlight k5_BadFlight : Option Value} {oc_BadFlight kV_BadFlight dc_BadFlight pm_BadFlight ct_BadFlight ccl_BadFlight cl_BadFlight : Value} {osl_BadFlight ccs_BadFlight csl_BadFlight : Array (Option Value)} {vs_BadFlight : Array Value} {tf_BadFlight : Tok} {nm_BadReach qn_BadReach file_BadReach : Str} {N_BadReach : Addr} {bs_BadReach bm_BadReach sub_BadReach : List Value} {sn_BadReach : List Str} {ab_BadReach : Bool} {col_BadReach : Option Bool} {dd_BadReach od_BadReach an_BadReach cdd_BadReach cld_BadReach : Option Addr} {k0_BadReach k1_BadReach k2_BadReach k3_BadReach k5_BadReach : Option Value} {oc_BadReach kV_BadReach dc_BadReach pm_BadReach ct_BadReach ccl_BadReach cl_BadReach : Value} {osl_BadReach ccs_BadReach csl_BadReach : Array (Option Value)} {vs_BadReach : Array Value} {tf_BadReach : Tok} {nm_BadShape qn_BadShape file_BadShape : Str} {N_BadShape : Addr} {bs_BadShape bm_BadShape sub_BadShape : List Value} {sn_BadShape : List Str} {ab_BadShape : Bool} {col_BadShape : Option Bool} {dd_BadShape od_BadShape an_BadShape cdd_BadShape cld_BadShape : Option Addr} {k0_BadShape k1_BadShape k2_BadShape k3_BadShape k5_BadShape : Option Value} {oc_BadShape kV_BadShape dc_BadShape pm_BadShape ct_BadShape ccl_BadShape cl_BadShape : Value} {osl_BadShape ccs_BadShape csl_BadShape : Array (Option Value)} {vs_BadShape : Array Value} {tf_BadShape : Tok} {nm_BadSight qn_BadSight file_BadSight : Str} {N_BadSight : Addr} {bs_BadSight bm_BadSight sub_BadSight : List Value} {sn_BadSight : List Str} {ab_BadSight : Bool} {col_BadSight : Option Bool} {dd_BadSight od_BadSight an_BadSight cdd_BadSight cld_BadSight : Option Addr} {k0_BadSight k1_BadSight k2_BadSight k3_BadSight k5_BadSight : Option Value} {oc_BadSight kV_BadSight dc_BadSight pm_BadSight ct_BadSight ccl_BadSight cl_BadSight : Value} {osl_BadSight ccs_BadSight csl_BadSight : Array (Option Value)} {vs_BadSight : Array Value} {tf_BadSight : Tok} {nm_BadWord qn_BadWord file_BadWord : Str} {N_BadWord : Addr} {bs_BadWord bm_BadWord sub_BadWord : List Value} {sn_BadWord : List Str} {ab_BadWord : Bool} {col_BadWord : Option Bool} {dd_BadWord od_BadWord an_BadWord cdd_BadWord cld_BadWord : Option Addr} {k0_BadWord k1_BadWord k2_BadWord k3_BadWord k5_BadWord : Option Value} {oc_BadWord kV_BadWord dc_BadWord pm_BadWord ct_BadWord ccl_BadWord cl_BadWord : Value} {osl_BadWord ccs_BadWord csl_BadWord : Array (Option Value)} {vs_BadWord : Array Value} {tf_BadWord : Tok}
    (X : K.In h) (G : h.Ns mainGlobals mg) (hfa : mg "law" = some (.ref fa))
    (aC_Game : PySem.W.nsIn K mainGlobals "Game" = some (some (.ref C_Game)))
    (aC_BadCatchers : PySem.W.nsIn K mainGlobals "BadCatchers" = some (some (.ref C_BadCatchers)))
    (aC_BadFlight : PySem.W.nsIn K mainGlobals "BadFlight" = some (some (.ref C_BadFlight)))
    (aC_BadReach : PySem.W.nsIn K mainGlobals "BadReach" = some (some (.ref C_BadReach)))
    (aC_BadShape : PySem.W.nsIn K mainGlobals "BadShape" = some (some (.ref C_BadShape)))
    (aC_BadSight : PySem.W.nsIn K mainGlobals "BadSight" = some (some (.ref C_BadSight)))
    (aC_BadWord : PySem.W.nsIn K mainGlobals "BadWord" = some (some (.ref C_BadWord)))
    (aC_ChaseError : PySem.W.nsIn K mainGlobals "ChaseError" = some (some (.ref C_ChaseError)))
    (a_Game_eq : PySem.W.findIn K (.ref C_Game) "__eq__" = some (some (.ref A_Game_eq)))
    (i_Game_eq : PySem.W.isFn K (.ref A_Game_eq) = true)
    (l_Game_eq : K.lookup A_Game_eq = some ⟨oc_Game_eq, od_Game_eq, .func (PySem.W.fnOf "__eq__" "Game.__eq__" (defArgs s_Game_eq) (defBody s_Game_eq) (defScope s_Game_eq) .none kV_Game_eq dc_Game_eq pm_Game_eq an_Game_eq cd_Game_eq ct_Game_eq), sl_Game_eq⟩)
    (c_Game_eq : PySem.W.codeIn K cd_Game_eq "Game.__eq__" = true)
    (k_Game_eq : PySem.W.keepIn K (.ref A_Game_eq) = true)
    (a_law_pick : PySem.W.nsIn K mainGlobals "_law_pick" = some (some (.ref A_law_pick)))
    (l_law_pick : K.lookup A_law_pick = some ⟨oc_law_pick, od_law_pick, .func (PySem.W.fnOf "_law_pick" "_law_pick" (defArgs s_law_pick) (defBody s_law_pick) (defScope s_law_pick) .none kV_law_pick dc_law_pick pm_law_pick an_law_pick cd_law_pick ct_law_pick), sl_law_pick⟩)
    (c_law_pick : PySem.W.codeIn K cd_law_pick "_law_pick" = true)
    (k_law_pick : PySem.W.keepIn K (.ref A_law_pick) = true)
    (a_law_drawn : PySem.W.nsIn K mainGlobals "_law_drawn" = some (some (.ref A_law_drawn)))
    (l_law_drawn : K.lookup A_law_drawn = some ⟨oc_law_drawn, od_law_drawn, .func (PySem.W.fnOf "_law_drawn" "_law_drawn" (defArgs s_law_drawn) (defBody s_law_drawn) (defScope s_law_drawn) .none kV_law_drawn dc_law_drawn pm_law_drawn an_law_drawn cd_law_drawn ct_law_drawn), sl_law_drawn⟩)
    (c_law_drawn : PySem.W.codeIn K cd_law_drawn "_law_drawn" = true)
    (k_law_drawn : PySem.W.keepIn K (.ref A_law_drawn) = true)
    (a_law_draws : PySem.W.nsIn K mainGlobals "_law_draws" = some (some (.ref A_law_draws)))
    (l_law_draws : K.lookup A_law_draws = some ⟨oc_law_draws, od_law_draws, .func (PySem.W.fnOf "_law_draws" "_law_draws" (defArgs s_law_draws) (defBody s_law_draws) (defScope s_law_draws) .none kV_law_draws dc_law_draws pm_law_draws an_law_draws cd_law_draws ct_law_draws), sl_law_draws⟩)
    (c_law_draws : PySem.W.codeIn K cd_law_draws "_law_draws" = true)
    (k_law_draws : PySem.W.keepIn K (.ref A_law_draws) = true)
    (a_is_integer : PySem.W.nsIn K mainGlobals "is_integer" = some (some (.ref A_is_integer)))
    (l_is_integer : K.lookup A_is_integer = some ⟨oc_is_integer, od_is_integer, .func (PySem.W.fnOf "is_integer" "is_integer" (defArgs s_is_integer) (defBody s_is_integer) (defScope s_is_integer) .none kV_is_integer dc_is_integer pm_is_integer an_is_integer cd_is_integer ct_is_integer), sl_is_integer⟩)
    (c_is_integer : PySem.W.codeIn K cd_is_integer "is_integer" = true)
    (k_is_integer : PySem.W.keepIn K (.ref A_is_integer) = true)
    (a_is_from : PySem.W.nsIn K mainGlobals "is_from" = some (some (.ref A_is_from)))
    (l_is_from : K.lookup A_is_from = some ⟨oc_is_from, od_is_from, .func (PySem.W.fnOf "is_from" "is_from" (defArgs s_is_from) (defBody s_is_from) (defScope s_is_from) .none kV_is_from dc_is_from pm_is_from an_is_from cd_is_from ct_is_from), sl_is_from⟩)
    (c_is_from : PySem.W.codeIn K cd_is_from "is_from" = true)
    (k_is_from : PySem.W.keepIn K (.ref A_is_from) = true)
    (a_is_one_of : PySem.W.nsIn K mainGlobals "is_one_of" = some (some (.ref A_is_one_of)))
    (l_is_one_of : K.lookup A_is_one_of = some ⟨oc_is_one_of, od_is_one_of, .func (PySem.W.fnOf "is_one_of" "is_one_of" (defArgs s_is_one_of) (defBody s_is_one_of) (defScope s_is_one_of) .none kV_is_one_of dc_is_one_of pm_is_one_of an_is_one_of cd_is_one_of ct_is_one_of), sl_is_one_of⟩)
    (c_is_one_of : PySem.W.codeIn K cd_is_one_of "is_one_of" = true)
    (k_is_one_of : PySem.W.keepIn K (.ref A_is_one_of) = true)
    (a_is_untold : PySem.W.nsIn K mainGlobals "is_untold" = some (some (.ref A_is_untold)))
    (l_is_untold : K.lookup A_is_untold = some ⟨oc_is_untold, od_is_untold, .func (PySem.W.fnOf "is_untold" "is_untold" (defArgs s_is_untold) (defBody s_is_untold) (defScope s_is_untold) .none kV_is_untold dc_is_untold pm_is_untold an_is_untold cd_is_untold ct_is_untold), sl_is_untold⟩)
    (c_is_untold : PySem.W.codeIn K cd_is_untold "is_untold" = true)
    (k_is_untold : PySem.W.keepIn K (.ref A_is_untold) = true)
    (a_Game_init : PySem.W.findIn K (.ref C_Game) "__init__" = some (some (.ref A_Game_init)))
    (i_Game_init : PySem.W.isFn K (.ref A_Game_init) = true)
    (l_Game_init : K.lookup A_Game_init = some ⟨oc_Game_init, od_Game_init, .func (PySem.W.fnOf "__init__" "Game.__init__" (defArgs s_Game_init) (defBody s_Game_init) (defScope s_Game_init) .none kV_Game_init dc_Game_init pm_Game_init an_Game_init cd_Game_init ct_Game_init), sl_Game_init⟩)
    (c_Game_init : PySem.W.codeIn K cd_Game_init "Game.__init__" = true)
    (k_Game_init : PySem.W.keepIn K (.ref A_Game_init) = true)
    (a_law_due_k12 : PySem.W.nsIn K mainGlobals "_law_due" = some (some (.ref A_law_due_k12)))
    (l_law_due_k12 : K.lookup A_law_due_k12 = some ⟨oc_law_due_k12, od_law_due_k12, .func (PySem.W.fnOf "_law_due" "_law_due" (defArgs s_law_due_k12) (defBody s_law_due_k12) (defScope s_law_due_k12) .none kV_law_due_k12 dc_law_due_k12 pm_law_due_k12 an_law_due_k12 cd_law_due_k12 ct_law_due_k12), sl_law_due_k12⟩)
    (c_law_due_k12 : PySem.W.codeIn K cd_law_due_k12 "_law_due" = true)
    (k_law_due_k12 : PySem.W.keepIn K (.ref A_law_due_k12) = true)
    (a_law_made : PySem.W.nsIn K mainGlobals "_law_made" = some (some (.ref A_law_made)))
    (l_law_made : K.lookup A_law_made = some ⟨oc_law_made, od_law_made, .func (PySem.W.fnOf "_law_made" "_law_made" (defArgs s_law_made) (defBody s_law_made) (defScope s_law_made) .none kV_law_made dc_law_made pm_law_made an_law_made cd_law_made ct_law_made), sl_law_made⟩)
    (c_law_made : PySem.W.codeIn K cd_law_made "_law_made" = true)
    (k_law_made : PySem.W.keepIn K (.ref A_law_made) = true)
    (a_numbers : PySem.W.nsIn K mainGlobals "numbers" = some (some (.ref A_numbers)))
    (l_numbers : K.lookup A_numbers = some ⟨oc_numbers, od_numbers, .func (PySem.W.fnOf "numbers" "numbers" (defArgs s_numbers) (defBody s_numbers) (defScope s_numbers) .none kV_numbers dc_numbers pm_numbers an_numbers cd_numbers ct_numbers), sl_numbers⟩)
    (c_numbers : PySem.W.codeIn K cd_numbers "numbers" = true)
    (k_numbers : PySem.W.keepIn K (.ref A_numbers) = true)
    (a_read : PySem.W.nsIn K mainGlobals "read" = some (some (.ref A_read)))
    (l_read : K.lookup A_read = some ⟨oc_read, od_read, .func (PySem.W.fnOf "read" "read" (defArgs s_read) (defBody s_read) (defScope s_read) .none kV_read dc_read pm_read an_read cd_read ct_read), sl_read⟩)
    (c_read : PySem.W.codeIn K cd_read "read" = true)
    (k_read : PySem.W.keepIn K (.ref A_read) = true)
    (a_law_told_k12 : PySem.W.nsIn K mainGlobals "_law_told" = some (some (.ref A_law_told_k12)))
    (l_law_told_k12 : K.lookup A_law_told_k12 = some ⟨oc_law_told_k12, od_law_told_k12, .func (PySem.W.fnOf "_law_told" "_law_told" (defArgs s_law_told_k12) (defBody s_law_told_k12) (defScope s_law_told_k12) .none kV_law_told_k12 dc_law_told_k12 pm_law_told_k12 an_law_told_k12 cd_law_told_k12 ct_law_told_k12), sl_law_told_k12⟩)
    (c_law_told_k12 : PySem.W.codeIn K cd_law_told_k12 "_law_told" = true)
    (k_law_told_k12 : PySem.W.keepIn K (.ref A_law_told_k12) = true)
    (a_law_words_of : PySem.W.nsIn K mainGlobals "_law_words_of" = some (some (.ref A_law_words_of)))
    (l_law_words_of : K.lookup A_law_words_of = some ⟨oc_law_words_of, od_law_words_of, .func (PySem.W.fnOf "_law_words_of" "_law_words_of" (defArgs s_law_words_of) (defBody s_law_words_of) (defScope s_law_words_of) .none kV_law_words_of dc_law_words_of pm_law_words_of an_law_words_of cd_law_words_of ct_law_words_of), sl_law_words_of⟩)
    (c_law_words_of : PySem.W.codeIn K cd_law_words_of "_law_words_of" = true)
    (k_law_words_of : PySem.W.keepIn K (.ref A_law_words_of) = true)
    (a_write : PySem.W.nsIn K mainGlobals "write" = some (some (.ref A_write)))
    (l_write : K.lookup A_write = some ⟨oc_write, od_write, .func (PySem.W.fnOf "write" "write" (defArgs s_write) (defBody s_write) (defScope s_write) .none kV_write dc_write pm_write an_write cd_write ct_write), sl_write⟩)
    (c_write : PySem.W.codeIn K cd_write "write" = true)
    (k_write : PySem.W.keepIn K (.ref A_write) = true)
    (a_law_k12 : PySem.W.nsIn K mainGlobals "law" = some (some (.ref A_law_k12)))
    (l_law_k12 : K.lookup A_law_k12 = some ⟨oc_law_k12, od_law_k12, .func (PySem.W.fnOf "law" "law" (defArgs s_law_k12) (defBody s_law_k12) (defScope s_law_k12) .none kV_law_k12 dc_law_k12 pm_law_k12 an_law_k12 cd_law_k12 ct_law_k12), sl_law_k12⟩)
    (c_law_k12 : PySem.W.codeIn K cd_law_k12 "law" = true)
    (k_law_k12 : PySem.W.keepIn K (.ref A_law_k12) = true)
    (mk_Game : PySem.W.makesIn K C_Game = true)
    (kp_Game : PySem.W.keepIn K (.ref C_Game) = true)
    (pg_Game : PySem.W.plainGet K C_Game Str.empty = true)
    (hd_Game : PySem.W.hasDictIn K C_Game = true)
    (po_Game : PySem.W.plainOver K C_Game = true)
    (sa_Game : PySem.W.findIn K (.ref C_Game) "__setattr__" = some (some (.builtin "object.__setattr__")))
    (n1_Game : PySem.W.findIn K (.ref C_Game) "form_of" = some none)
    (n2_Game : PySem.W.findIn K (.ref C_Game) "many" = some none)
    (n3_Game : PySem.W.findIn K (.ref C_Game) "far" = some none)
    (n4_Game : PySem.W.findIn K (.ref C_Game) "quick" = some none)
    (n5_Game : PySem.W.findIn K (.ref C_Game) "seen" = some none)
    (ki_g : PySem.W.kitOne K (.ref C_Game) (.ref C_Game) = some true)
    (ki_t : PySem.W.kitOne K (.type "tuple") (.ref C_Game) = some false)
    (ki_s : PySem.W.kitOne K (.ref C_Game) (.type "str") = some false)
    (nf_g : PySem.W.notFirst K C_Game (.ref C_Game) = true)
    (nf_t : PySem.W.notFirst K C_Game (.type "tuple") = true)
    (hg_Game : PySem.W.findIn K (.ref C_Game) "__class__" = some (some (.builtin "object.__class__")))
    (mg_Game : PySem.W.mroIn K C_Game (.type "object") = some true)
    (ne_Game : PySem.W.findIn K (.ref C_Game) "__ne__" = some (some (.builtin "object.__ne__")))
    (b_super : PySem.W.nsIn K mainGlobals "super" = some none)
    (th_any : PySem.W.nsIn K cStatics "thirdparty.any" = some none)
    (l_BadCatchers : K.lookup C_BadCatchers = some (excClassObj nm_BadCatchers qn_BadCatchers C_BadCatchers N_BadCatchers bs_BadCatchers bm_BadCatchers true sn_BadCatchers sub_BadCatchers ab_BadCatchers col_BadCatchers dd_BadCatchers k0_BadCatchers k1_BadCatchers k2_BadCatchers k3_BadCatchers k5_BadCatchers "ValueError.__new__"))
    (r_BadCatchers : PySem.HandSPX.refsVE bm_BadCatchers = true)
    (iC_BadCatchers : PySem.W.findIn K (.ref C_BadCatchers) "__init__" = some (some (.ref f_BadCatchers)))
    (tI_BadCatchers : PySem.W.typeIn K (.ref f_BadCatchers) = some (.type "function"))
    (lI_BadCatchers : K.lookup f_BadCatchers = some ⟨oc_BadCatchers, od_BadCatchers, .func (PySem.W.ksFn "__init__" "BadCatchers.__init__" (PySem.DQ.exA ⟨10, 17, 10, 21⟩) (PySem.DQ.exB "the number of catchers is wrong" 0 ⟨11, 8, 11, 13⟩ ⟨11, 8, 11, 15⟩ ⟨11, 8, 11, 24⟩ ⟨11, 25, 11, 58⟩ ⟨11, 8, 11, 59⟩ ⟨11, 8, 11, 59⟩) PySem.DQ.exS .none kV_BadCatchers dc_BadCatchers pm_BadCatchers an_BadCatchers (.ref cda_BadCatchers) ct_BadCatchers cc_BadCatchers), osl_BadCatchers⟩)
    (cI_BadCatchers : PySem.W.codeIn K (.ref cda_BadCatchers) "BadCatchers.__init__" = true)
    (cd_BadCatchers : K.lookup cda_BadCatchers = some ⟨ccl_BadCatchers, cdd_BadCatchers, .fields vs_BadCatchers, ccs_BadCatchers⟩)
    (vs_BadCatchers : vs_BadCatchers[2]? = some (.str file_BadCatchers tf_BadCatchers))
    (fl_BadCatchers : ((l.prog.main.file : Str) == file_BadCatchers) = true)
    (ce_BadCatchers : K.lookup cc_BadCatchers = some ⟨cl_BadCatchers, cld_BadCatchers, .cell (some (.ref C_BadCatchers)), csl_BadCatchers⟩)
    (ev_BadCatchers : PySem.DQ.ErE "BadCatchers.__init__" "the number of catchers is wrong" 0 ⟨11, 8, 11, 13⟩ ⟨11, 8, 11, 15⟩ ⟨11, 8, 11, 24⟩ ⟨11, 25, 11, 58⟩ ⟨11, 8, 11, 59⟩ f_BadCatchers cda_BadCatchers cc_BadCatchers)
    (kC_BadCatchers : PySem.W.keepIn K (.ref C_BadCatchers) = true)
    (su_BadCatchers : PySem.W.ks_superIn K C_BadCatchers C_BadCatchers "__init__" = some (some (.builtin "ValueError.__init__")))
    (sV_BadCatchers : PySem.W.subIn K (.ref C_BadCatchers) (.type "ValueError") = some true)
    (sB_BadCatchers : PySem.W.subIn K (.ref C_BadCatchers) (.type "BaseException") = some true)
    (ty_BadCatchers : PySem.W.typeIn K (.ref C_BadCatchers) = some (.type "type"))
    (mr_BadCatchers : PySem.W.mroIn K C_BadCatchers (.ref C_BadCatchers) = some true)
    (ga_BadCatchers : PySem.W.findIn K (.ref C_BadCatchers) "__getattribute__" = some (some (.builtin "BaseException.__getattribute__")))
    (gt_BadCatchers : PySem.W.findIn K (.ref C_BadCatchers) "__getattr__" = some none)
    (hd_BadCatchers : PySem.W.hasDictIn K C_BadCatchers = true)
    (ha_BadCatchers : PySem.W.findIn K (.ref C_BadCatchers) "__class__" = some (some (.builtin "object.__class__")))
    (mo_BadCatchers : PySem.W.mroIn K C_BadCatchers (.type "object") = some true)
    (xm_BadCatchers_BadWord : PySem.W.exmOne K (.ref C_BadCatchers) (.ref C_BadWord) = some false)
    (ki_BadCatchers_ChaseError : PySem.W.kitOne K (.ref C_BadCatchers) (.ref C_ChaseError) = some true)
    (l_BadFlight : K.lookup C_BadFlight = some (excClassObj nm_BadFlight qn_BadFlight C_BadFlight N_BadFlight bs_BadFlight bm_BadFlight true sn_BadFlight sub_BadFlight ab_BadFlight col_BadFlight dd_BadFlight k0_BadFlight k1_BadFlight k2_BadFlight k3_BadFlight k5_BadFlight "ValueError.__new__"))
    (r_BadFlight : PySem.HandSPX.refsVE bm_BadFlight = true)
    (iC_BadFlight : PySem.W.findIn K (.ref C_BadFlight) "__init__" = some (some (.ref f_BadFlight)))
    (tI_BadFlight : PySem.W.typeIn K (.ref f_BadFlight) = some (.type "function"))
    (lI_BadFlight : K.lookup f_BadFlight = some ⟨oc_BadFlight, od_BadFlight, .func (PySem.W.ksFn "__init__" "BadFlight.__init__" (PySem.DQ.exA ⟨18, 17, 18, 21⟩) (PySem.DQ.exB "the flight is wrong" 0 ⟨19, 8, 19, 13⟩ ⟨19, 8, 19, 15⟩ ⟨19, 8, 19, 24⟩ ⟨19, 25, 19, 46⟩ ⟨19, 8, 19, 47⟩ ⟨19, 8, 19, 47⟩) PySem.DQ.exS .none kV_BadFlight dc_BadFlight pm_BadFlight an_BadFlight (.ref cda_BadFlight) ct_BadFlight cc_BadFlight), osl_BadFlight⟩)
    (cI_BadFlight : PySem.W.codeIn K (.ref cda_BadFlight) "BadFlight.__init__" = true)
    (cd_BadFlight : K.lookup cda_BadFlight = some ⟨ccl_BadFlight, cdd_BadFlight, .fields vs_BadFlight, ccs_BadFlight⟩)
    (vs_BadFlight : vs_BadFlight[2]? = some (.str file_BadFlight tf_BadFlight))
    (fl_BadFlight : ((l.prog.main.file : Str) == file_BadFlight) = true)
    (ce_BadFlight : K.lookup cc_BadFlight = some ⟨cl_BadFlight, cld_BadFlight, .cell (some (.ref C_BadFlight)), csl_BadFlight⟩)
    (ev_BadFlight : PySem.DQ.ErE "BadFlight.__init__" "the flight is wrong" 0 ⟨19, 8, 19, 13⟩ ⟨19, 8, 19, 15⟩ ⟨19, 8, 19, 24⟩ ⟨19, 25, 19, 46⟩ ⟨19, 8, 19, 47⟩ f_BadFlight cda_BadFlight cc_BadFlight)
    (kC_BadFlight : PySem.W.keepIn K (.ref C_BadFlight) = true)
    (su_BadFlight : PySem.W.ks_superIn K C_BadFlight C_BadFlight "__init__" = some (some (.builtin "ValueError.__init__")))
    (sV_BadFlight : PySem.W.subIn K (.ref C_BadFlight) (.type "ValueError") = some true)
    (sB_BadFlight : PySem.W.subIn K (.ref C_BadFlight) (.type "BaseException") = some true)
    (ty_BadFlight : PySem.W.typeIn K (.ref C_BadFlight) = some (.type "type"))
    (mr_BadFlight : PySem.W.mroIn K C_BadFlight (.ref C_BadFlight) = some true)
    (ga_BadFlight : PySem.W.findIn K (.ref C_BadFlight) "__getattribute__" = some (some (.builtin "BaseException.__getattribute__")))
    (gt_BadFlight : PySem.W.findIn K (.ref C_BadFlight) "__getattr__" = some none)
    (hd_BadFlight : PySem.W.hasDictIn K C_BadFlight = true)
    (ha_BadFlight : PySem.W.findIn K (.ref C_BadFlight) "__class__" = some (some (.builtin "object.__class__")))
    (mo_BadFlight : PySem.W.mroIn K C_BadFlight (.type "object") = some true)
    (xm_BadFlight_BadWord : PySem.W.exmOne K (.ref C_BadFlight) (.ref C_BadWord) = some false)
    (ki_BadFlight_ChaseError : PySem.W.kitOne K (.ref C_BadFlight) (.ref C_ChaseError) = some true)
    (l_BadReach : K.lookup C_BadReach = some (excClassObj nm_BadReach qn_BadReach C_BadReach N_BadReach bs_BadReach bm_BadReach true sn_BadReach sub_BadReach ab_BadReach col_BadReach dd_BadReach k0_BadReach k1_BadReach k2_BadReach k3_BadReach k5_BadReach "ValueError.__new__"))
    (r_BadReach : PySem.HandSPX.refsVE bm_BadReach = true)
    (iC_BadReach : PySem.W.findIn K (.ref C_BadReach) "__init__" = some (some (.ref f_BadReach)))
    (tI_BadReach : PySem.W.typeIn K (.ref f_BadReach) = some (.type "function"))
    (lI_BadReach : K.lookup f_BadReach = some ⟨oc_BadReach, od_BadReach, .func (PySem.W.ksFn "__init__" "BadReach.__init__" (PySem.DQ.exA ⟨14, 17, 14, 21⟩) (PySem.DQ.exB "the reach is wrong" 0 ⟨15, 8, 15, 13⟩ ⟨15, 8, 15, 15⟩ ⟨15, 8, 15, 24⟩ ⟨15, 25, 15, 45⟩ ⟨15, 8, 15, 46⟩ ⟨15, 8, 15, 46⟩) PySem.DQ.exS .none kV_BadReach dc_BadReach pm_BadReach an_BadReach (.ref cda_BadReach) ct_BadReach cc_BadReach), osl_BadReach⟩)
    (cI_BadReach : PySem.W.codeIn K (.ref cda_BadReach) "BadReach.__init__" = true)
    (cd_BadReach : K.lookup cda_BadReach = some ⟨ccl_BadReach, cdd_BadReach, .fields vs_BadReach, ccs_BadReach⟩)
    (vs_BadReach : vs_BadReach[2]? = some (.str file_BadReach tf_BadReach))
    (fl_BadReach : ((l.prog.main.file : Str) == file_BadReach) = true)
    (ce_BadReach : K.lookup cc_BadReach = some ⟨cl_BadReach, cld_BadReach, .cell (some (.ref C_BadReach)), csl_BadReach⟩)
    (ev_BadReach : PySem.DQ.ErE "BadReach.__init__" "the reach is wrong" 0 ⟨15, 8, 15, 13⟩ ⟨15, 8, 15, 15⟩ ⟨15, 8, 15, 24⟩ ⟨15, 25, 15, 45⟩ ⟨15, 8, 15, 46⟩ f_BadReach cda_BadReach cc_BadReach)
    (kC_BadReach : PySem.W.keepIn K (.ref C_BadReach) = true)
    (su_BadReach : PySem.W.ks_superIn K C_BadReach C_BadReach "__init__" = some (some (.builtin "ValueError.__init__")))
    (sV_BadReach : PySem.W.subIn K (.ref C_BadReach) (.type "ValueError") = some true)
    (sB_BadReach : PySem.W.subIn K (.ref C_BadReach) (.type "BaseException") = some true)
    (ty_BadReach : PySem.W.typeIn K (.ref C_BadReach) = some (.type "type"))
    (mr_BadReach : PySem.W.mroIn K C_BadReach (.ref C_BadReach) = some true)
    (ga_BadReach : PySem.W.findIn K (.ref C_BadReach) "__getattribute__" = some (some (.builtin "BaseException.__getattribute__")))
    (gt_BadReach : PySem.W.findIn K (.ref C_BadReach) "__getattr__" = some none)
    (hd_BadReach : PySem.W.hasDictIn K C_BadReach = true)
    (ha_BadReach : PySem.W.findIn K (.ref C_BadReach) "__class__" = some (some (.builtin "object.__class__")))
    (mo_BadReach : PySem.W.mroIn K C_BadReach (.type "object") = some true)
    (xm_BadReach_BadWord : PySem.W.exmOne K (.ref C_BadReach) (.ref C_BadWord) = some false)
    (ki_BadReach_ChaseError : PySem.W.kitOne K (.ref C_BadReach) (.ref C_ChaseError) = some true)
    (l_BadShape : K.lookup C_BadShape = some (excClassObj nm_BadShape qn_BadShape C_BadShape N_BadShape bs_BadShape bm_BadShape true sn_BadShape sub_BadShape ab_BadShape col_BadShape dd_BadShape k0_BadShape k1_BadShape k2_BadShape k3_BadShape k5_BadShape "ValueError.__new__"))
    (r_BadShape : PySem.HandSPX.refsVE bm_BadShape = true)
    (iC_BadShape : PySem.W.findIn K (.ref C_BadShape) "__init__" = some (some (.ref f_BadShape)))
    (tI_BadShape : PySem.W.typeIn K (.ref f_BadShape) = some (.type "function"))
    (lI_BadShape : K.lookup f_BadShape = some ⟨oc_BadShape, od_BadShape, .func (PySem.W.ksFn "__init__" "BadShape.__init__" (PySem.DQ.exA ⟨6, 17, 6, 21⟩) (PySem.DQ.exB "the shape is wrong" 0 ⟨7, 8, 7, 13⟩ ⟨7, 8, 7, 15⟩ ⟨7, 8, 7, 24⟩ ⟨7, 25, 7, 45⟩ ⟨7, 8, 7, 46⟩ ⟨7, 8, 7, 46⟩) PySem.DQ.exS .none kV_BadShape dc_BadShape pm_BadShape an_BadShape (.ref cda_BadShape) ct_BadShape cc_BadShape), osl_BadShape⟩)
    (cI_BadShape : PySem.W.codeIn K (.ref cda_BadShape) "BadShape.__init__" = true)
    (cd_BadShape : K.lookup cda_BadShape = some ⟨ccl_BadShape, cdd_BadShape, .fields vs_BadShape, ccs_BadShape⟩)
    (vs_BadShape : vs_BadShape[2]? = some (.str file_BadShape tf_BadShape))
    (fl_BadShape : ((l.prog.main.file : Str) == file_BadShape) = true)
    (ce_BadShape : K.lookup cc_BadShape = some ⟨cl_BadShape, cld_BadShape, .cell (some (.ref C_BadShape)), csl_BadShape⟩)
    (ev_BadShape : PySem.DQ.ErE "BadShape.__init__" "the shape is wrong" 0 ⟨7, 8, 7, 13⟩ ⟨7, 8, 7, 15⟩ ⟨7, 8, 7, 24⟩ ⟨7, 25, 7, 45⟩ ⟨7, 8, 7, 46⟩ f_BadShape cda_BadShape cc_BadShape)
    (kC_BadShape : PySem.W.keepIn K (.ref C_BadShape) = true)
    (su_BadShape : PySem.W.ks_superIn K C_BadShape C_BadShape "__init__" = some (some (.builtin "ValueError.__init__")))
    (sV_BadShape : PySem.W.subIn K (.ref C_BadShape) (.type "ValueError") = some true)
    (sB_BadShape : PySem.W.subIn K (.ref C_BadShape) (.type "BaseException") = some true)
    (ty_BadShape : PySem.W.typeIn K (.ref C_BadShape) = some (.type "type"))
    (mr_BadShape : PySem.W.mroIn K C_BadShape (.ref C_BadShape) = some true)
    (ga_BadShape : PySem.W.findIn K (.ref C_BadShape) "__getattribute__" = some (some (.builtin "BaseException.__getattribute__")))
    (gt_BadShape : PySem.W.findIn K (.ref C_BadShape) "__getattr__" = some none)
    (hd_BadShape : PySem.W.hasDictIn K C_BadShape = true)
    (ha_BadShape : PySem.W.findIn K (.ref C_BadShape) "__class__" = some (some (.builtin "object.__class__")))
    (mo_BadShape : PySem.W.mroIn K C_BadShape (.type "object") = some true)
    (xm_BadShape_BadWord : PySem.W.exmOne K (.ref C_BadShape) (.ref C_BadWord) = some false)
    (ki_BadShape_ChaseError : PySem.W.kitOne K (.ref C_BadShape) (.ref C_ChaseError) = some true)
    (l_BadSight : K.lookup C_BadSight = some (excClassObj nm_BadSight qn_BadSight C_BadSight N_BadSight bs_BadSight bm_BadSight true sn_BadSight sub_BadSight ab_BadSight col_BadSight dd_BadSight k0_BadSight k1_BadSight k2_BadSight k3_BadSight k5_BadSight "ValueError.__new__"))
    (r_BadSight : PySem.HandSPX.refsVE bm_BadSight = true)
    (iC_BadSight : PySem.W.findIn K (.ref C_BadSight) "__init__" = some (some (.ref f_BadSight)))
    (tI_BadSight : PySem.W.typeIn K (.ref f_BadSight) = some (.type "function"))
    (lI_BadSight : K.lookup f_BadSight = some ⟨oc_BadSight, od_BadSight, .func (PySem.W.ksFn "__init__" "BadSight.__init__" (PySem.DQ.exA ⟨22, 17, 22, 21⟩) (PySem.DQ.exB "the sight is wrong" 0 ⟨23, 8, 23, 13⟩ ⟨23, 8, 23, 15⟩ ⟨23, 8, 23, 24⟩ ⟨23, 25, 23, 45⟩ ⟨23, 8, 23, 46⟩ ⟨23, 8, 23, 46⟩) PySem.DQ.exS .none kV_BadSight dc_BadSight pm_BadSight an_BadSight (.ref cda_BadSight) ct_BadSight cc_BadSight), osl_BadSight⟩)
    (cI_BadSight : PySem.W.codeIn K (.ref cda_BadSight) "BadSight.__init__" = true)
    (cd_BadSight : K.lookup cda_BadSight = some ⟨ccl_BadSight, cdd_BadSight, .fields vs_BadSight, ccs_BadSight⟩)
    (vs_BadSight : vs_BadSight[2]? = some (.str file_BadSight tf_BadSight))
    (fl_BadSight : ((l.prog.main.file : Str) == file_BadSight) = true)
    (ce_BadSight : K.lookup cc_BadSight = some ⟨cl_BadSight, cld_BadSight, .cell (some (.ref C_BadSight)), csl_BadSight⟩)
    (ev_BadSight : PySem.DQ.ErE "BadSight.__init__" "the sight is wrong" 0 ⟨23, 8, 23, 13⟩ ⟨23, 8, 23, 15⟩ ⟨23, 8, 23, 24⟩ ⟨23, 25, 23, 45⟩ ⟨23, 8, 23, 46⟩ f_BadSight cda_BadSight cc_BadSight)
    (kC_BadSight : PySem.W.keepIn K (.ref C_BadSight) = true)
    (su_BadSight : PySem.W.ks_superIn K C_BadSight C_BadSight "__init__" = some (some (.builtin "ValueError.__init__")))
    (sV_BadSight : PySem.W.subIn K (.ref C_BadSight) (.type "ValueError") = some true)
    (sB_BadSight : PySem.W.subIn K (.ref C_BadSight) (.type "BaseException") = some true)
    (ty_BadSight : PySem.W.typeIn K (.ref C_BadSight) = some (.type "type"))
    (mr_BadSight : PySem.W.mroIn K C_BadSight (.ref C_BadSight) = some true)
    (ga_BadSight : PySem.W.findIn K (.ref C_BadSight) "__getattribute__" = some (some (.builtin "BaseException.__getattribute__")))
    (gt_BadSight : PySem.W.findIn K (.ref C_BadSight) "__getattr__" = some none)
    (hd_BadSight : PySem.W.hasDictIn K C_BadSight = true)
    (ha_BadSight : PySem.W.findIn K (.ref C_BadSight) "__class__" = some (some (.builtin "object.__class__")))
    (mo_BadSight : PySem.W.mroIn K C_BadSight (.type "object") = some true)
    (xm_BadSight_BadWord : PySem.W.exmOne K (.ref C_BadSight) (.ref C_BadWord) = some false)
    (ki_BadSight_ChaseError : PySem.W.kitOne K (.ref C_BadSight) (.ref C_ChaseError) = some true)
    (l_BadWord : K.lookup C_BadWord = some (excClassObj nm_BadWord qn_BadWord C_BadWord N_BadWord bs_BadWord bm_BadWord true sn_BadWord sub_BadWord ab_BadWord col_BadWord dd_BadWord k0_BadWord k1_BadWord k2_BadWord k3_BadWord k5_BadWord "ValueError.__new__"))
    (r_BadWord : PySem.HandSPX.refsVE bm_BadWord = true)
    (iC_BadWord : PySem.W.findIn K (.ref C_BadWord) "__init__" = some (some (.ref f_BadWord)))
    (tI_BadWord : PySem.W.typeIn K (.ref f_BadWord) = some (.type "function"))
    (lI_BadWord : K.lookup f_BadWord = some ⟨oc_BadWord, od_BadWord, .func (PySem.W.ksFn "__init__" "BadWord.__init__" (PySem.DQ.exA1 ⟨26, 17, 26, 21⟩ ⟨26, 23, 26, 28⟩) (PySem.DQ.exB1 (PySem.DQ.exJ "word " " cannot stand there" ⟨27, 27, 27, 32⟩ ⟨27, 33, 27, 38⟩ ⟨27, 32, 27, 39⟩ ⟨27, 39, 27, 58⟩ ⟨27, 25, 27, 59⟩) ⟨27, 8, 27, 13⟩ ⟨27, 8, 27, 15⟩ ⟨27, 8, 27, 24⟩ ⟨27, 8, 27, 60⟩ ⟨27, 8, 27, 60⟩ ⟨28, 8, 28, 12⟩ ⟨28, 8, 28, 18⟩ ⟨28, 21, 28, 26⟩ ⟨28, 8, 28, 26⟩) PySem.DQ.exS1 .none kV_BadWord dc_BadWord pm_BadWord an_BadWord (.ref cda_BadWord) ct_BadWord cc_BadWord), osl_BadWord⟩)
    (cI_BadWord : PySem.W.codeIn K (.ref cda_BadWord) "BadWord.__init__" = true)
    (cd_BadWord : K.lookup cda_BadWord = some ⟨ccl_BadWord, cdd_BadWord, .fields vs_BadWord, ccs_BadWord⟩)
    (vs_BadWord : vs_BadWord[2]? = some (.str file_BadWord tf_BadWord))
    (fl_BadWord : ((l.prog.main.file : Str) == file_BadWord) = true)
    (ce_BadWord : K.lookup cc_BadWord = some ⟨cl_BadWord, cld_BadWord, .cell (some (.ref C_BadWord)), csl_BadWord⟩)
    (ev_BadWord : PySem.DQ.ErE1 "BadWord.__init__" (PySem.DQ.exJ "word " " cannot stand there" ⟨27, 27, 27, 32⟩ ⟨27, 33, 27, 38⟩ ⟨27, 32, 27, 39⟩ ⟨27, 39, 27, 58⟩ ⟨27, 25, 27, 59⟩) ⟨27, 8, 27, 13⟩ ⟨27, 8, 27, 15⟩ ⟨27, 8, 27, 24⟩ ⟨27, 8, 27, 60⟩ f_BadWord cda_BadWord cc_BadWord)
    (sx_BadWord : PySem.W.findIn K (.ref C_BadWord) "__setattr__" = some (some (.builtin "object.__setattr__")))
    (ix_BadWord : PySem.W.findIn K (.ref C_BadWord) "index" = some none)
    (kC_BadWord : PySem.W.keepIn K (.ref C_BadWord) = true)
    (su_BadWord : PySem.W.ks_superIn K C_BadWord C_BadWord "__init__" = some (some (.builtin "ValueError.__init__")))
    (sV_BadWord : PySem.W.subIn K (.ref C_BadWord) (.type "ValueError") = some true)
    (sB_BadWord : PySem.W.subIn K (.ref C_BadWord) (.type "BaseException") = some true)
    (ty_BadWord : PySem.W.typeIn K (.ref C_BadWord) = some (.type "type"))
    (mr_BadWord : PySem.W.mroIn K C_BadWord (.ref C_BadWord) = some true)
    (ga_BadWord : PySem.W.findIn K (.ref C_BadWord) "__getattribute__" = some (some (.builtin "BaseException.__getattribute__")))
    (gt_BadWord : PySem.W.findIn K (.ref C_BadWord) "__getattr__" = some none)
    (hd_BadWord : PySem.W.hasDictIn K C_BadWord = true)
    (ha_BadWord : PySem.W.findIn K (.ref C_BadWord) "__class__" = some (some (.builtin "object.__class__")))
    (mo_BadWord : PySem.W.mroIn K C_BadWord (.type "object") = some true)
    (xm_BadWord_BadWord : PySem.W.exmOne K (.ref C_BadWord) (.ref C_BadWord) = some true)
    (ki_BadWord_ChaseError : PySem.W.kitOne K (.ref C_BadWord) (.ref C_ChaseError) = some true)
    (hn_cls : PySem.W.specialIn K (.builtin "object.__class__") "__get__" = some (some (.builtin "getset_descriptor.__get__")))
    (ht_cls : PySem.W.takesIn K (.builtin "object.__class__") = some true)
    (tp_super : (l.prog.main.scope.names.lookup ("super" : Str)).isSome = false)
    (v_RING : PySem.W.nsIn K mainGlobals "RING" = some (some u_RING))
    (r_RING : RelV (.str "ring") u_RING)
    (v_SHAPES : PySem.W.nsIn K mainGlobals "SHAPES" = some (some (.ref A_SHAPES)))
    (l_SHAPES : K.lookup A_SHAPES = some ⟨.type "tuple", od_SHAPES, .seq its_SHAPES n_SHAPES, sl_SHAPES⟩)
    (z_SHAPES : its_SHAPES.size ≤ 1000)
    (r_SHAPES : Vals [V.str "path", V.str "ring"] its_SHAPES.toList)
    (v_NEVER : PySem.W.nsIn K mainGlobals "NEVER" = some (some u_NEVER))
    (r_NEVER : RelV (.str "never") u_NEVER)
    (v_SIGHTS : PySem.W.nsIn K mainGlobals "SIGHTS" = some (some (.ref A_SIGHTS)))
    (l_SIGHTS : K.lookup A_SIGHTS = some ⟨.type "tuple", od_SIGHTS, .seq its_SIGHTS n_SIGHTS, sl_SIGHTS⟩)
    (z_SIGHTS : its_SIGHTS.size ≤ 1000)
    (r_SIGHTS : Vals [V.str "always", V.str "never"] its_SIGHTS.toList)
    (v_MOST_CATCHERS : PySem.W.nsIn K mainGlobals "MOST_CATCHERS" = some (some u_MOST_CATCHERS))
    (r_MOST_CATCHERS : RelV (.int 6) u_MOST_CATCHERS)
    (v_MOST_STEPS : PySem.W.nsIn K mainGlobals "MOST_STEPS" = some (some u_MOST_STEPS))
    (r_MOST_STEPS : RelV (.int 5) u_MOST_STEPS)
    (b_bool : PySem.W.nsIn K mainGlobals "bool" = some none)
    (b_enumerate : PySem.W.nsIn K mainGlobals "enumerate" = some none)
    (b_int : PySem.W.nsIn K mainGlobals "int" = some none)
    (b_isinstance : PySem.W.nsIn K mainGlobals "isinstance" = some none)
    (b_len : PySem.W.nsIn K mainGlobals "len" = some none)
    (b_list : PySem.W.nsIn K mainGlobals "list" = some none)
    (b_range : PySem.W.nsIn K mainGlobals "range" = some none)
    (b_str : PySem.W.nsIn K mainGlobals "str" = some none)
    : ∃ fd : FuncData, (∀ (s : Shared) (v : Value), BindsTo s fd ⟨[v], []⟩ [("_law_script", v)]) ∧ ∀ base : Heap, K.In base → base.Ns mainGlobals mg → FnOk l.prog w K mg base (L2.CX l.prog w) 8 fa fd ["_law_script"] (SpD K lawG) := by
  have e0 := hfa.symm.trans (PySem.W.mg_of X G a_law_k12)
  cases e0
  have T : Txt l.prog ⟨K, clsOf [("Game", C_Game), ("BadCatchers", C_BadCatchers), ("BadFlight", C_BadFlight), ("BadReach", C_BadReach), ("BadShape", C_BadShape), ("BadSight", C_BadSight), ("BadWord", C_BadWord), ("ChaseError", C_ChaseError)], true⟩ mg := by
    constructor
    · rfl
    · exact ⟨_, _, (fun_mk (st := s_Game_eq) l_Game_eq c_Game_eq k_Game_eq), a_Game_eq, i_Game_eq, (L2.Fun.binds (fun_mk (st := s_Game_eq) l_Game_eq c_Game_eq k_Game_eq) fun _ _ _ _ _ _ us hl => match us, hl with | [_, _], _ => rfl)⟩
    · exact ⟨_, _, (fun_mk (st := s_law_pick) l_law_pick c_law_pick k_law_pick), PySem.W.mg_of X G a_law_pick, k_law_pick, (L2.Fun.binds (fun_mk (st := s_law_pick) l_law_pick c_law_pick k_law_pick) fun _ _ _ _ _ _ us hl => match us, hl with | [_, _], _ => rfl)⟩
    · exact ⟨_, _, (fun_mk (st := s_law_drawn) l_law_drawn c_law_drawn k_law_drawn), PySem.W.mg_of X G a_law_drawn, k_law_drawn, (L2.Fun.binds (fun_mk (st := s_law_drawn) l_law_drawn c_law_drawn k_law_drawn) fun _ _ _ _ _ _ us hl => match us, hl with | [_, _, _], _ => rfl)⟩
    · exact ⟨_, _, (fun_mk (st := s_law_draws) l_law_draws c_law_draws k_law_draws), PySem.W.mg_of X G a_law_draws, k_law_draws, (L2.Fun.binds (fun_mk (st := s_law_draws) l_law_draws c_law_draws k_law_draws) fun _ _ _ _ _ _ us hl => match us, hl with | [_], _ => rfl)⟩
    · exact ⟨_, _, (fun_mk (st := s_is_integer) l_is_integer c_is_integer k_is_integer), PySem.W.mg_of X G a_is_integer, k_is_integer, (L2.Fun.binds (fun_mk (st := s_is_integer) l_is_integer c_is_integer k_is_integer) fun _ _ _ _ _ _ us hl => match us, hl with | [_], _ => rfl)⟩
    · exact ⟨_, _, (fun_mk (st := s_is_from) l_is_from c_is_from k_is_from), PySem.W.mg_of X G a_is_from, k_is_from, (L2.Fun.binds (fun_mk (st := s_is_from) l_is_from c_is_from k_is_from) fun _ _ _ _ _ _ us hl => match us, hl with | [_, _, _], _ => rfl)⟩
    · exact ⟨_, _, (fun_mk (st := s_is_one_of) l_is_one_of c_is_one_of k_is_one_of), PySem.W.mg_of X G a_is_one_of, k_is_one_of, (L2.Fun.binds (fun_mk (st := s_is_one_of) l_is_one_of c_is_one_of k_is_one_of) fun _ _ _ _ _ _ us hl => match us, hl with | [_, _], _ => rfl)⟩
    · exact ⟨_, _, (fun_mk (st := s_is_untold) l_is_untold c_is_untold k_is_untold), PySem.W.mg_of X G a_is_untold, k_is_untold, (L2.Fun.binds (fun_mk (st := s_is_untold) l_is_untold c_is_untold k_is_untold) fun _ _ _ _ _ _ us hl => match us, hl with | [_, _, _], _ => rfl)⟩
    · exact ⟨_, _, (fun_mk (st := s_Game_init) l_Game_init c_Game_init k_Game_init), ⟨mk_Game, a_Game_init, i_Game_init, kp_Game⟩, PySem.W.mg_of X G aC_Game, (L2.Fun.binds (fun_mk (st := s_Game_init) l_Game_init c_Game_init k_Game_init) fun _ _ _ _ _ _ us hl => match us, hl with | [_, _, _, _, _, _], _ => rfl)⟩
    · exact ⟨_, _, (fun_mk (st := s_law_due_k12) l_law_due_k12 c_law_due_k12 k_law_due_k12), PySem.W.mg_of X G a_law_due_k12, k_law_due_k12, (L2.Fun.binds (fun_mk (st := s_law_due_k12) l_law_due_k12 c_law_due_k12 k_law_due_k12) fun _ _ _ _ _ _ us hl => match us, hl with | [_], _ => rfl)⟩
    · exact ⟨_, _, (fun_mk (st := s_law_made) l_law_made c_law_made k_law_made), PySem.W.mg_of X G a_law_made, k_law_made, (L2.Fun.binds (fun_mk (st := s_law_made) l_law_made c_law_made k_law_made) fun _ _ _ _ _ _ us hl => match us, hl with | [_], _ => rfl)⟩
    · exact ⟨_, _, (fun_mk (st := s_numbers) l_numbers c_numbers k_numbers), PySem.W.mg_of X G a_numbers, k_numbers, (L2.Fun.binds (fun_mk (st := s_numbers) l_numbers c_numbers k_numbers) fun _ _ _ _ _ _ us hl => match us, hl with | [_, _], _ => rfl)⟩
    · exact ⟨_, _, (fun_mk (st := s_read) l_read c_read k_read), PySem.W.mg_of X G a_read, k_read, (L2.Fun.binds (fun_mk (st := s_read) l_read c_read k_read) fun _ _ _ _ _ _ us hl => match us, hl with | [_], _ => rfl)⟩
    · exact ⟨_, _, (fun_mk (st := s_law_told_k12) l_law_told_k12 c_law_told_k12 k_law_told_k12), PySem.W.mg_of X G a_law_told_k12, k_law_told_k12, (L2.Fun.binds (fun_mk (st := s_law_told_k12) l_law_told_k12 c_law_told_k12 k_law_told_k12) fun _ _ _ _ _ _ us hl => match us, hl with | [_], _ => rfl)⟩
    · exact ⟨_, _, (fun_mk (st := s_law_words_of) l_law_words_of c_law_words_of k_law_words_of), PySem.W.mg_of X G a_law_words_of, k_law_words_of, (L2.Fun.binds (fun_mk (st := s_law_words_of) l_law_words_of c_law_words_of k_law_words_of) fun _ _ _ _ _ _ us hl => match us, hl with | [_], _ => rfl)⟩
    · exact ⟨_, _, (fun_mk (st := s_write) l_write c_write k_write), PySem.W.mg_of X G a_write, k_write, (L2.Fun.binds (fun_mk (st := s_write) l_write c_write k_write) fun _ _ _ _ _ _ us hl => match us, hl with | [_], _ => rfl)⟩
    · exact ⟨_, _, (fun_mk (st := s_law_k12) l_law_k12 c_law_k12 k_law_k12), PySem.W.mg_of X G a_law_k12, k_law_k12, (L2.Fun.binds (fun_mk (st := s_law_k12) l_law_k12 c_law_k12 k_law_k12) fun _ _ _ _ _ _ us hl => match us, hl with | [_], _ => rfl)⟩
    · exact ⟨_, PySem.W.mg_of X G v_RING, r_RING⟩
    · exact ⟨_, PySem.W.mg_of X G v_SHAPES, fun F => .tup (.inr ⟨_, _, _, l_SHAPES, rfl, rfl, Nat.le_trans z_SHAPES (by decide), r_SHAPES⟩) (.cons (.str _) (.cons (.str _) .nil))⟩
    · exact ⟨_, PySem.W.mg_of X G v_NEVER, r_NEVER⟩
    · exact ⟨_, PySem.W.mg_of X G v_SIGHTS, fun F => .tup (.inr ⟨_, _, _, l_SIGHTS, rfl, rfl, Nat.le_trans z_SIGHTS (by decide), r_SIGHTS⟩) (.cons (.str _) (.cons (.str _) .nil))⟩
    · exact ⟨_, PySem.W.mg_of X G v_MOST_CATCHERS, r_MOST_CATCHERS⟩
    · exact ⟨_, PySem.W.mg_of X G v_MOST_STEPS, r_MOST_STEPS⟩
    · exact PySem.W.mg_none_of X G b_bool
    · exact PySem.W.mg_none_of X G b_enumerate
    · exact PySem.W.mg_none_of X G b_int
    · exact PySem.W.mg_none_of X G b_isinstance
    · exact PySem.W.mg_none_of X G b_len
    · exact PySem.W.mg_none_of X G b_list
    · exact PySem.W.mg_none_of X G b_range
    · exact PySem.W.mg_none_of X G b_str
    · exact ⟨⟨pg_Game, hd_Game, po_Game, sa_Game⟩, n1_Game, n2_Game, n3_Game, n4_Game, n5_Game⟩
    · exact PySem.W.mg_of X G aC_Game
    · exact ⟨⟨⟨pg_Game, hd_Game, po_Game, sa_Game⟩, hg_Game, hn_cls, ht_cls, mg_Game⟩, ki_g, ki_t, ki_s, nf_g, nf_t⟩
    · exact ne_Game
    · exact mg_Game
    · exact PySem.W.mg_none_of X G b_super
    · exact PySem.W.mg_of X G aC_BadCatchers
    · exact PySem.W.mg_of X G aC_BadFlight
    · exact PySem.W.mg_of X G aC_BadReach
    · exact PySem.W.mg_of X G aC_BadShape
    · exact PySem.W.mg_of X G aC_BadSight
    · exact PySem.W.mg_of X G aC_BadWord
    · exact PySem.W.mg_of X G aC_ChaseError
    · exact ⟨⟨_, _, _, _, _, _, _, _, _, _, _, _, _, _, _, l_BadCatchers, r_BadCatchers⟩, ⟨_, _, _, _, _, _, _, _, _, _, _, _, _, _, _, _, _, _, _, _, _, iC_BadCatchers, tI_BadCatchers, lI_BadCatchers, cI_BadCatchers, ⟨_, _, _, _, _, _, cd_BadCatchers, vs_BadCatchers, fl_BadCatchers⟩, ⟨_, _, _, ce_BadCatchers⟩, ev_BadCatchers⟩, kC_BadCatchers, su_BadCatchers, sV_BadCatchers, sB_BadCatchers, ty_BadCatchers, mr_BadCatchers, th_any, tp_super⟩
    · exact ⟨ga_BadCatchers, gt_BadCatchers, sB_BadCatchers, hd_BadCatchers, ha_BadCatchers, hn_cls, ht_cls, mo_BadCatchers⟩
    · exact xm_BadCatchers_BadWord
    · exact ki_BadCatchers_ChaseError
    · exact ⟨⟨_, _, _, _, _, _, _, _, _, _, _, _, _, _, _, l_BadFlight, r_BadFlight⟩, ⟨_, _, _, _, _, _, _, _, _, _, _, _, _, _, _, _, _, _, _, _, _, iC_BadFlight, tI_BadFlight, lI_BadFlight, cI_BadFlight, ⟨_, _, _, _, _, _, cd_BadFlight, vs_BadFlight, fl_BadFlight⟩, ⟨_, _, _, ce_BadFlight⟩, ev_BadFlight⟩, kC_BadFlight, su_BadFlight, sV_BadFlight, sB_BadFlight, ty_BadFlight, mr_BadFlight, th_any, tp_super⟩
    · exact ⟨ga_BadFlight, gt_BadFlight, sB_BadFlight, hd_BadFlight, ha_BadFlight, hn_cls, ht_cls, mo_BadFlight⟩
    · exact xm_BadFlight_BadWord
    · exact ki_BadFlight_ChaseError
    · exact ⟨⟨_, _, _, _, _, _, _, _, _, _, _, _, _, _, _, l_BadReach, r_BadReach⟩, ⟨_, _, _, _, _, _, _, _, _, _, _, _, _, _, _, _, _, _, _, _, _, iC_BadReach, tI_BadReach, lI_BadReach, cI_BadReach, ⟨_, _, _, _, _, _, cd_BadReach, vs_BadReach, fl_BadReach⟩, ⟨_, _, _, ce_BadReach⟩, ev_BadReach⟩, kC_BadReach, su_BadReach, sV_BadReach, sB_BadReach, ty_BadReach, mr_BadReach, th_any, tp_super⟩
    · exact ⟨ga_BadReach, gt_BadReach, sB_BadReach, hd_BadReach, ha_BadReach, hn_cls, ht_cls, mo_BadReach⟩
    · exact xm_BadReach_BadWord
    · exact ki_BadReach_ChaseError
    · exact ⟨⟨_, _, _, _, _, _, _, _, _, _, _, _, _, _, _, l_BadShape, r_BadShape⟩, ⟨_, _, _, _, _, _, _, _, _, _, _, _, _, _, _, _, _, _, _, _, _, iC_BadShape, tI_BadShape, lI_BadShape, cI_BadShape, ⟨_, _, _, _, _, _, cd_BadShape, vs_BadShape, fl_BadShape⟩, ⟨_, _, _, ce_BadShape⟩, ev_BadShape⟩, kC_BadShape, su_BadShape, sV_BadShape, sB_BadShape, ty_BadShape, mr_BadShape, th_any, tp_super⟩
    · exact ⟨ga_BadShape, gt_BadShape, sB_BadShape, hd_BadShape, ha_BadShape, hn_cls, ht_cls, mo_BadShape⟩
    · exact xm_BadShape_BadWord
    · exact ki_BadShape_ChaseError
    · exact ⟨⟨_, _, _, _, _, _, _, _, _, _, _, _, _, _, _, l_BadSight, r_BadSight⟩, ⟨_, _, _, _, _, _, _, _, _, _, _, _, _, _, _, _, _, _, _, _, _, iC_BadSight, tI_BadSight, lI_BadSight, cI_BadSight, ⟨_, _, _, _, _, _, cd_BadSight, vs_BadSight, fl_BadSight⟩, ⟨_, _, _, ce_BadSight⟩, ev_BadSight⟩, kC_BadSight, su_BadSight, sV_BadSight, sB_BadSight, ty_BadSight, mr_BadSight, th_any, tp_super⟩
    · exact ⟨ga_BadSight, gt_BadSight, sB_BadSight, hd_BadSight, ha_BadSight, hn_cls, ht_cls, mo_BadSight⟩
    · exact xm_BadSight_BadWord
    · exact ki_BadSight_ChaseError
    · exact ⟨⟨_, _, _, _, _, _, _, _, _, _, _, _, _, _, _, l_BadWord, r_BadWord⟩, ⟨_, _, _, _, _, _, _, _, _, _, _, _, _, _, _, _, _, _, _, _, _, _, _, _, _, _, _, _, _, _, iC_BadWord, tI_BadWord, by decide, by decide, lI_BadWord, cI_BadWord, ⟨_, _, _, _, _, _, cd_BadWord, vs_BadWord, fl_BadWord⟩, ⟨_, _, _, ce_BadWord⟩, ev_BadWord⟩, kC_BadWord, su_BadWord, sV_BadWord, sB_BadWord, ty_BadWord, mr_BadWord, th_any, sx_BadWord, ix_BadWord, tp_super⟩
    · exact ⟨ga_BadWord, gt_BadWord, sB_BadWord, hd_BadWord⟩
    · exact ix_BadWord
    · exact ⟨ga_BadWord, gt_BadWord, sB_BadWord, hd_BadWord, ha_BadWord, hn_cls, ht_cls, mo_BadWord⟩
    · exact xm_BadWord_BadWord
    · exact ki_BadWord_ChaseError
  refine ⟨PySem.W.fnOf "law" "law" (defArgs s_law_k12) (defBody s_law_k12) (defScope s_law_k12) .none kV_law_k12 dc_law_k12 pm_law_k12 an_law_k12 cd_law_k12 ct_law_k12, fun s v => .of_eq rfl, fun base _ _ => ?_⟩
  have cGame_eq := (w_Game_eq (P := l.prog) (w := w) (base := base) T )
  have claw_pick := (w_law_pick (P := l.prog) (w := w) (base := base) T ).row
  have claw_drawn := (w_law_drawn (P := l.prog) (w := w) (base := base) T claw_pick)
  have claw_draws := (w_law_draws (P := l.prog) (w := w) (base := base) T ).mk'
  have cis_integer := (w_is_integer (P := l.prog) (w := w) (base := base) T )
  have cis_from := (w_is_from (P := l.prog) (w := w) (base := base) T cis_integer)
  have cis_one_of := (w_is_one_of (P := l.prog) (w := w) (base := base) T )
  have cis_untold := (w_is_untold (P := l.prog) (w := w) (base := base) T )
  have cGame_init := (w_Game_init (P := l.prog) (w := w) (base := base) T cis_from cis_one_of cis_untold)
  have claw_due_k12 := (w_law_due_k12 (P := l.prog) (w := w) (base := base) T cGame_init)
  have claw_made := (w_law_made (P := l.prog) (w := w) (base := base) T cGame_init)
  have cnumbers := (w_numbers (P := l.prog) (w := w) (base := base) T )
  have cread := (w_read (P := l.prog) (w := w) (base := base) T cGame_init cis_untold cnumbers)
  have claw_told_k12 := (w_law_told_k12 (P := l.prog) (w := w) (base := base) T cread)
  have claw_words_of := (w_law_words_of (P := l.prog) (w := w) (base := base) T )
  have cwrite := (w_write (P := l.prog) (w := w) (base := base) T )
  exact w_law_k12 (P := l.prog) (w := w) (base := base) T cGame_eq cGame_eq claw_drawn claw_draws claw_due_k12 claw_made claw_pick claw_told_k12 claw_words_of cread cwrite (fun_mk (st := s_law_k12) l_law_k12 c_law_k12 k_law_k12)
theorem walk {l : PySem.W.OpenLaw} {q : Program} {loose : List Str} {XP : (Str → Option Value) → Heap → Prop} {YP : World → Heap → Prop} {d : DefRec} {K : Params → PySem.W.Frag} (hn : l.most = some 63) (hdf : d.params.defaults = []) (hY : ∀ (w : World) (h : Heap), YP w h → (K w.params).In h)
    (F : ∀ (w : World) (mg : Str → Option Value) (fa : Addr) (h : Heap), (K w.params).In h → h.Ns mainGlobals mg → mg d.name = some (.ref fa) → ∃ fd : FuncData, (∀ (s : Shared) (u : Value), BindsTo s fd ⟨[u], []⟩ [("_law_script", u)]) ∧ ∀ base : Heap, (K w.params).In base → base.Ns mainGlobals mg → FnOk l.prog w (K w.params) mg base (L2.CX l.prog w) 8 fa fd ["_law_script"] (SpD (K w.params) lawG)) :
    PySem.W.WalkO q loose XP YP l.row.toRowW d [] (fun f vs => PySem.call f vs) := L2.walk_ofB (n := 63) (k := 8) (x := "_law_script") (CX := fun w => L2.CX l.prog w) (sp := fun w => SpD (K w.params) lawG) hn (by decide) hdf ⟨rfl, by decide, by decide⟩ hY F (fun w H a ns hl hb hO hS => law_end hS hb fun R RX => lawG_end R RX) fun w H s e s' z => cx_none w H s e s' z
end DL
open PySem PySem.W PyProof.Rows
set_option maxRecDepth 100000 in
set_option maxHeartbeats 0 in
theorem PySem.Challenge.cw_postchase_k12_texts_there_and_back_holds : PySem.Challenge.rw_postchase_k12_texts_there_and_back.Holds := by
  w_on; o_law; k_head; (case hw => w_witness2)
  k_fill
  refine DL.walk (l := PySem.Challenge.rw_postchase_k12_texts_there_and_back) rfl rfl (fun w h Y => PySem.W.kIn_of Y) ?F
  case F =>
    intro w mg fa h KX G hmg
    refine' DL.all_mk KX G hmg ?aC_Game ?aC_BadCatchers ?aC_BadFlight ?aC_BadReach ?aC_BadShape ?aC_BadSight ?aC_BadWord ?aC_ChaseError ?a_Game_eq ?i_Game_eq ?l_Game_eq ?c_Game_eq ?k_Game_eq ?a_law_pick ?l_law_pick ?c_law_pick ?k_law_pick ?a_law_drawn ?l_law_drawn ?c_law_drawn ?k_law_drawn ?a_law_draws ?l_law_draws ?c_law_draws ?k_law_draws ?a_is_integer ?l_is_integer ?c_is_integer ?k_is_integer ?a_is_from ?l_is_from ?c_is_from ?k_is_from ?a_is_one_of ?l_is_one_of ?c_is_one_of ?k_is_one_of ?a_is_untold ?l_is_untold ?c_is_untold ?k_is_untold ?a_Game_init ?i_Game_init ?l_Game_init ?c_Game_init ?k_Game_init ?a_law_due_k12 ?l_law_due_k12 ?c_law_due_k12 ?k_law_due_k12 ?a_law_made ?l_law_made ?c_law_made ?k_law_made ?a_numbers ?l_numbers ?c_numbers ?k_numbers ?a_read ?l_read ?c_read ?k_read ?a_law_told_k12 ?l_law_told_k12 ?c_law_told_k12 ?k_law_told_k12 ?a_law_words_of ?l_law_words_of ?c_law_words_of ?k_law_words_of ?a_write ?l_write ?c_write ?k_write ?a_law_k12 ?l_law_k12 ?c_law_k12 ?k_law_k12 ?mk_Game ?kp_Game ?pg_Game ?hd_Game ?po_Game ?sa_Game ?n1_Game ?n2_Game ?n3_Game ?n4_Game ?n5_Game ?ki_g ?ki_t ?ki_s ?nf_g ?nf_t ?hg_Game ?mg_Game ?ne_Game ?b_super ?th_any ?l_BadCatchers ?r_BadCatchers ?iC_BadCatchers ?tI_BadCatchers ?lI_BadCatchers ?cI_BadCatchers ?cd_BadCatchers ?vs_BadCatchers ?fl_BadCatchers ?ce_BadCatchers ?ev_BadCatchers ?kC_BadCatchers ?su_BadCatchers ?sV_BadCatchers ?sB_BadCatchers ?ty_BadCatchers ?mr_BadCatchers ?ga_BadCatchers ?gt_BadCatchers ?hd_BadCatchers ?ha_BadCatchers ?mo_BadCatchers ?xm_BadCatchers_BadWord ?ki_BadCatchers_ChaseError ?l_BadFlight ?r_BadFlight ?iC_BadFlight ?tI_BadFlight ?lI_BadFlight ?cI_BadFlight ?cd_BadFlight ?vs_BadFlight ?fl_BadFlight ?ce_BadFlight ?ev_BadFlight ?kC_BadFlight ?su_BadFlight ?sV_BadFlight ?sB_BadFlight ?ty_BadFlight ?mr_BadFlight ?ga_BadFlight ?gt_BadFlight ?hd_BadFlight ?ha_BadFlight ?mo_BadFlight ?xm_BadFlight_BadWord ?ki_BadFlight_ChaseError ?l_BadReach ?r_BadReach ?iC_BadReach ?tI_BadReach ?lI_BadReach ?cI_BadReach ?cd_BadReach ?vs_BadReach ?fl_BadReach ?ce_BadReach ?ev_BadReach ?kC_BadReach ?su_BadReach ?sV_BadReach ?sB_BadReach ?ty_BadReach ?mr_BadReach ?ga_BadReach ?gt_BadReach ?hd_BadReach ?ha_BadReach ?mo_BadReach ?xm_BadReach_BadWord ?ki_BadReach_ChaseError ?l_BadShape ?r_BadShape ?iC_BadShape ?tI_BadShape ?lI_BadShape ?cI_BadShape ?cd_BadShape ?vs_BadShape ?fl_BadShape ?ce_BadShape ?ev_BadShape ?kC_BadShape ?su_BadShape ?sV_BadShape ?sB_BadShape ?ty_BadShape ?mr_BadShape ?ga_BadShape ?gt_BadShape ?hd_BadShape ?ha_BadShape ?mo_BadShape ?xm_BadShape_BadWord ?ki_BadShape_ChaseError ?l_BadSight ?r_BadSight ?iC_BadSight ?tI_BadSight ?lI_BadSight ?cI_BadSight ?cd_BadSight ?vs_BadSight ?fl_BadSight ?ce_BadSight ?ev_BadSight ?kC_BadSight ?su_BadSight ?sV_BadSight ?sB_BadSight ?ty_BadSight ?mr_BadSight ?ga_BadSight ?gt_BadSight ?hd_BadSight ?ha_BadSight ?mo_BadSight ?xm_BadSight_BadWord ?ki_BadSight_ChaseError ?l_BadWord ?r_BadWord ?iC_BadWord ?tI_BadWord ?lI_BadWord ?cI_BadWord ?cd_BadWord ?vs_BadWord ?fl_BadWord ?ce_BadWord ?ev_BadWord ?sx_BadWord ?ix_BadWord ?kC_BadWord ?su_BadWord ?sV_BadWord ?sB_BadWord ?ty_BadWord ?mr_BadWord ?ga_BadWord ?gt_BadWord ?hd_BadWord ?ha_BadWord ?mo_BadWord ?xm_BadWord_BadWord ?ki_BadWord_ChaseError ?hn_cls ?ht_cls ?tp_super ?v_RING ?r_RING ?v_SHAPES ?l_SHAPES ?z_SHAPES ?r_SHAPES ?v_NEVER ?r_NEVER ?v_SIGHTS ?l_SIGHTS ?z_SIGHTS ?r_SIGHTS ?v_MOST_CATCHERS ?r_MOST_CATCHERS ?v_MOST_STEPS ?r_MOST_STEPS ?b_bool ?b_enumerate ?b_int ?b_isinstance ?b_len ?b_list ?b_range ?b_str
    (case aC_Game => k_is)
    (case aC_BadCatchers => k_is)
    (case aC_BadFlight => k_is)
    (case aC_BadReach => k_is)
    (case aC_BadShape => k_is)
    (case aC_BadSight => k_is)
    (case aC_BadWord => k_is)
    (case aC_ChaseError => k_is)
    (case a_Game_eq => k_is)
    (case i_Game_eq => k_is)
    (case l_Game_eq => k_is)
    (case c_Game_eq => k_is)
    (case k_Game_eq => k_is)
    (case a_law_pick => k_is)
    (case l_law_pick => k_is)
    (case c_law_pick => k_is)
    (case k_law_pick => k_is)
    (case a_law_drawn => k_is)
    (case l_law_drawn => k_is)
    (case c_law_drawn => k_is)
    (case k_law_drawn => k_is)
    (case a_law_draws => k_is)
    (case l_law_draws => k_is)
    (case c_law_draws => k_is)
    (case k_law_draws => k_is)
    (case a_is_integer => k_is)
    (case l_is_integer => k_is)
    (case c_is_integer => k_is)
    (case k_is_integer => k_is)
    (case a_is_from => k_is)
    (case l_is_from => k_is)
    (case c_is_from => k_is)
    (case k_is_from => k_is)
    (case a_is_one_of => k_is)
    (case l_is_one_of => k_is)
    (case c_is_one_of => k_is)
    (case k_is_one_of => k_is)
    (case a_is_untold => k_is)
    (case l_is_untold => k_is)
    (case c_is_untold => k_is)
    (case k_is_untold => k_is)
    (case a_Game_init => k_is)
    (case i_Game_init => k_is)
    (case l_Game_init => k_is)
    (case c_Game_init => k_is)
    (case k_Game_init => k_is)
    (case a_law_due_k12 => k_is)
    (case l_law_due_k12 => k_is)
    (case c_law_due_k12 => k_is)
    (case k_law_due_k12 => k_is)
    (case a_law_made => k_is)
    (case l_law_made => k_is)
    (case c_law_made => k_is)
    (case k_law_made => k_is)
    (case a_numbers => k_is)
    (case l_numbers => k_is)
    (case c_numbers => k_is)
    (case k_numbers => k_is)
    (case a_read => k_is)
    (case l_read => k_is)
    (case c_read => k_is)
    (case k_read => k_is)
    (case a_law_told_k12 => k_is)
    (case l_law_told_k12 => k_is)
    (case c_law_told_k12 => k_is)
    (case k_law_told_k12 => k_is)
    (case a_law_words_of => k_is)
    (case l_law_words_of => k_is)
    (case c_law_words_of => k_is)
    (case k_law_words_of => k_is)
    (case a_write => k_is)
    (case l_write => k_is)
    (case c_write => k_is)
    (case k_write => k_is)
    (case a_law_k12 => k_is)
    (case l_law_k12 => k_is)
    (case c_law_k12 => k_is)
    (case k_law_k12 => k_is)
    (case mk_Game => k_is)
    (case kp_Game => k_is)
    (case pg_Game => k_is)
    (case hd_Game => k_is)
    (case po_Game => k_is)
    (case sa_Game => k_is)
    (case n1_Game => k_is)
    (case n2_Game => k_is)
    (case n3_Game => k_is)
    (case n4_Game => k_is)
    (case n5_Game => k_is)
    (case ki_g => first | k_is | kernel_rfl | rfl)
    (case ki_t => first | k_is | kernel_rfl | rfl)
    (case ki_s => first | k_is | kernel_rfl | rfl)
    (case nf_g => first | k_is | kernel_rfl | rfl)
    (case nf_t => first | k_is | kernel_rfl | rfl)
    (case hg_Game => k_is)
    (case mg_Game => k_is)
    (case ne_Game => k_is)
    (case b_super => k_is)
    (case th_any => k_is)
    (case l_BadCatchers => k_is)
    (case r_BadCatchers => exact (by decide +kernel))
    (case iC_BadCatchers => k_is)
    (case tI_BadCatchers => k_is)
    (case lI_BadCatchers => k_is)
    (case cI_BadCatchers => k_is)
    (case cd_BadCatchers => k_is)
    (case vs_BadCatchers => exact rfl)
    (case fl_BadCatchers => exact (by decide +kernel))
    (case ce_BadCatchers => k_is)
    (case ev_BadCatchers => exact (fun L => ⟨_, rfl⟩))
    (case kC_BadCatchers => k_is)
    (case su_BadCatchers => first | ks_is | kernel_rfl | rfl)
    (case sV_BadCatchers => k_is)
    (case sB_BadCatchers => k_is)
    (case ty_BadCatchers => k_is)
    (case mr_BadCatchers => k_is)
    (case ga_BadCatchers => k_is)
    (case gt_BadCatchers => k_is)
    (case hd_BadCatchers => k_is)
    (case ha_BadCatchers => k_is)
    (case mo_BadCatchers => k_is)
    (case xm_BadCatchers_BadWord => first | k_is | kernel_rfl | rfl)
    (case ki_BadCatchers_ChaseError => first | k_is | kernel_rfl | rfl)
    (case l_BadFlight => k_is)
    (case r_BadFlight => exact (by decide +kernel))
    (case iC_BadFlight => k_is)
    (case tI_BadFlight => k_is)
    (case lI_BadFlight => k_is)
    (case cI_BadFlight => k_is)
    (case cd_BadFlight => k_is)
    (case vs_BadFlight => exact rfl)
    (case fl_BadFlight => exact (by decide +kernel))
    (case ce_BadFlight => k_is)
    (case ev_BadFlight => exact (fun L => ⟨_, rfl⟩))
    (case kC_BadFlight => k_is)
    (case su_BadFlight => first | ks_is | kernel_rfl | rfl)
    (case sV_BadFlight => k_is)
    (case sB_BadFlight => k_is)
    (case ty_BadFlight => k_is)
    (case mr_BadFlight => k_is)
    (case ga_BadFlight => k_is)
    (case gt_BadFlight => k_is)
    (case hd_BadFlight => k_is)
    (case ha_BadFlight => k_is)
    (case mo_BadFlight => k_is)
    (case xm_BadFlight_BadWord => first | k_is | kernel_rfl | rfl)
    (case ki_BadFlight_ChaseError => first | k_is | kernel_rfl | rfl)
    (case l_BadReach => k_is)
    (case r_BadReach => exact (by decide +kernel))
    (case iC_BadReach => k_is)
    (case tI_BadReach => k_is)
    (case lI_BadReach => k_is)
    (case cI_BadReach => k_is)
    (case cd_BadReach => k_is)
    (case vs_BadReach => exact rfl)
    (case fl_BadReach => exact (by decide +kernel))
    (case ce_BadReach => k_is)
    (case ev_BadReach => exact (fun L => ⟨_, rfl⟩))
    (case kC_BadReach => k_is)
    (case su_BadReach => first | ks_is | kernel_rfl | rfl)
    (case sV_BadReach => k_is)
    (case sB_BadReach => k_is)
    (case ty_BadReach => k_is)
    (case mr_BadReach => k_is)
    (case ga_BadReach => k_is)
    (case gt_BadReach => k_is)
    (case hd_BadReach => k_is)
    (case ha_BadReach => k_is)
    (case mo_BadReach => k_is)
    (case xm_BadReach_BadWord => first | k_is | kernel_rfl | rfl)
    (case ki_BadReach_ChaseError => first | k_is | kernel_rfl | rfl)
    (case l_BadShape => k_is)
    (case r_BadShape => exact (by decide +kernel))
    (case iC_BadShape => k_is)
    (case tI_BadShape => k_is)
    (case lI_BadShape => k_is)
    (case cI_BadShape => k_is)
    (case cd_BadShape => k_is)
    (case vs_BadShape => exact rfl)
    (case fl_BadShape => exact (by decide +kernel))
    (case ce_BadShape => k_is)
    (case ev_BadShape => exact (fun L => ⟨_, rfl⟩))
    (case kC_BadShape => k_is)
    (case su_BadShape => first | ks_is | kernel_rfl | rfl)
    (case sV_BadShape => k_is)
    (case sB_BadShape => k_is)
    (case ty_BadShape => k_is)
    (case mr_BadShape => k_is)
    (case ga_BadShape => k_is)
    (case gt_BadShape => k_is)
    (case hd_BadShape => k_is)
    (case ha_BadShape => k_is)
    (case mo_BadShape => k_is)
    (case xm_BadShape_BadWord => first | k_is | kernel_rfl | rfl)
    (case ki_BadShape_ChaseError => first | k_is | kernel_rfl | rfl)
    (case l_BadSight => k_is)
    (case r_BadSight => exact (by decide +kernel))
    (case iC_BadSight => k_is)
    (case tI_BadSight => k_is)
    (case lI_BadSight => k_is)
    (case cI_BadSight => k_is)
    (case cd_BadSight => k_is)
    (case vs_BadSight => exact rfl)
    (case fl_BadSight => exact (by decide +kernel))
    (case ce_BadSight => k_is)
    (case ev_BadSight => exact (fun L => ⟨_, rfl⟩))
    (case kC_BadSight => k_is)
    (case su_BadSight => first | ks_is | kernel_rfl | rfl)
    (case sV_BadSight => k_is)
    (case sB_BadSight => k_is)
    (case ty_BadSight => k_is)
    (case mr_BadSight => k_is)
    (case ga_BadSight => k_is)
    (case gt_BadSight => k_is)
    (case hd_BadSight => k_is)
    (case ha_BadSight => k_is)
    (case mo_BadSight => k_is)
    (case xm_BadSight_BadWord => first | k_is | kernel_rfl | rfl)
    (case ki_BadSight_ChaseError => first | k_is | kernel_rfl | rfl)
    (case l_BadWord => k_is)
    (case r_BadWord => exact (by decide +kernel))
    (case iC_BadWord => k_is)
    (case tI_BadWord => k_is)
    (case lI_BadWord => k_is)
    (case cI_BadWord => k_is)
    (case cd_BadWord => k_is)
    (case vs_BadWord => exact rfl)
    (case fl_BadWord => exact (by decide +kernel))
    (case ce_BadWord => k_is)
    (case ev_BadWord => exact (fun L => ⟨_, rfl⟩))
    (case sx_BadWord => k_is)
    (case ix_BadWord => k_is)
    (case kC_BadWord => k_is)
    (case su_BadWord => first | ks_is | kernel_rfl | rfl)
    (case sV_BadWord => k_is)
    (case sB_BadWord => k_is)
    (case ty_BadWord => k_is)
    (case mr_BadWord => k_is)
    (case ga_BadWord => k_is)
    (case gt_BadWord => k_is)
    (case hd_BadWord => k_is)
    (case ha_BadWord => k_is)
    (case mo_BadWord => k_is)
    (case xm_BadWord_BadWord => first | k_is | kernel_rfl | rfl)
    (case ki_BadWord_ChaseError => first | k_is | kernel_rfl | rfl)
    (case hn_cls => k_is)
    (case ht_cls => k_is)
    (case tp_super => first | rfl | exact (by decide +kernel))
    (case v_RING => k_is)
    (case r_RING => exact ⟨_, rfl⟩)
    (case v_SHAPES => k_is)
    (case l_SHAPES => k_is)
    (case z_SHAPES => exact (by decide))
    (case r_SHAPES => exact (.cons ⟨_, rfl⟩ (.cons ⟨_, rfl⟩ .nil)))
    (case v_NEVER => k_is)
    (case r_NEVER => exact ⟨_, rfl⟩)
    (case v_SIGHTS => k_is)
    (case l_SIGHTS => k_is)
    (case z_SIGHTS => exact (by decide))
    (case r_SIGHTS => exact (.cons ⟨_, rfl⟩ (.cons ⟨_, rfl⟩ .nil)))
    (case v_MOST_CATCHERS => k_is)
    (case r_MOST_CATCHERS => exact ⟨_, rfl⟩)
    (case v_MOST_STEPS => k_is)
    (case r_MOST_STEPS => exact ⟨_, rfl⟩)
    (case b_bool => k_is)
    (case b_enumerate => k_is)
    (case b_int => k_is)
    (case b_isinstance => k_is)
    (case b_len => k_is)
    (case b_list => k_is)
    (case b_range => k_is)
    (case b_str => k_is)
#print axioms PySem.Challenge.cw_postchase_k12_texts_there_and_back_holds

