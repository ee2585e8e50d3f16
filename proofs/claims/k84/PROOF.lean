import PyProof.Rows.All
import Wide.All
import OpenK.AllK
import Wide.FinOn
import PyProof.EqAt
import PyProof.EqKinds
import PyProof.TupleCall
import KE.KStateDown
import HandS.ForMost
import HandS.Exc
import HandS.TryOnly
import HandS.ExcOwn
import HandS.Flow
import HandS.IsInst
import HandS.Property
import HandS.Deep
import HandS.Defaults
import HandS.TupAny
import HandS.Wide
import HandS.WideBits
import HandS.Style
import HandS.HeadHook1
import HandS.HeadHook2
import HandS.SortInts
import HandS.Conv
import HandS.Strs
import HandS.WordsExc
import HandS.Walk
import HandS.HeadWalk
import HandS.CallRecv
import HandS.NoneIn
import HandS.Iter
import KE.GoesEnum
import HandS.EndBits
import HandS.Codes
import HandS.HeadEnd
import HandS.Head0
import HandS.Head1
import HandS.Head2
import PySem.Challenge.RW_shelfwithin_k84_whole_texts_of_pairs_in
set_option Elab.async false
set_option linter.all false
set_option maxRecDepth 100000
set_option maxHeartbeats 4000000
/-! Data without addresses, a store of our own, and how both stand in the abstract heap of HandS. -/
namespace ME
open PySem PySem.Spec PyProof.Rows L2

/-- a value as a tree; ref n: the n-th cell of the store -/
inductive D where
  | non | bl (b : Bool) | int (i : Int) | str (x : Str)
  | tup (ds : List D) | lst (ds : List D) | rol (ds : List D)
  | obj (c : Str) (ns : List Str) (fs : List D)
  | dct (ks : List Key) (ds : List D)
  | ref (n : Nat)
  deriving Inhabited

/-- what may change -/
inductive Cell where
  | lst (ds : List D)
  | dct (ks : List Key) (ds : List D)
  | ins (c : Str) (ns : List Str) (fs : List D)
  | lok (ks : List Key) (ds : List D)
abbrev Sto := List Cell

abbrev PZ := Addr → Prop
def Held (Z : PZ) (r : List Addr) (a : Addr) : Prop := Z a ∨ a ∈ r
/-- a tuple of the written part -/
def StatT (K : PySem.W.Frag) (a : Addr) (xs : List V) : Prop := SqT K (fun _ => none) a xs
def StatL (K : PySem.W.Frag) (a : Addr) (xs : List V) : Prop := SqL K (fun _ => none) a xs
def TupAt (K : PySem.W.Frag) (Z : PZ) (r : List Addr) (H : Hp) (a : Addr) (xs : List V) : Prop := (Rd H a (.tup xs) ∧ ¬ Held Z r a) ∨ StatT K a xs
def LstAt (Z : PZ) (r : List Addr) (H : Hp) (a : Addr) (xs : List V) : Prop := H a = some (.lst xs) ∧ ¬ Held Z r a
/-- a list that is only read (the script) -/
def RolAt (K : PySem.W.Frag) (Z : PZ) (r : List Addr) (H : Hp) (a : Addr) (xs : List V) : Prop := (Rd H a (.lst xs) ∧ ¬ Held Z r a) ∨ StatL K a xs
theorem StatT.sq {K : PySem.W.Frag} {H : Hp} {a : Addr} {xs : List V} (h : StatT K a xs) : SqT K H a xs := by
  rcases h with (h | ⟨o, h⟩) | h
  · cases h
  · cases h
  · exact .inr h
theorem StatL.sq {K : PySem.W.Frag} {H : Hp} {a : Addr} {xs : List V} (h : StatL K a xs) : SqL K H a xs := by
  rcases h with (h | ⟨o, h⟩) | h
  · cases h
  · cases h
  · exact .inr h
theorem TupAt.sq {K : PySem.W.Frag} {Z : PZ} {r : List Addr} {H : Hp} {a : Addr} {xs : List V} (h : TupAt K Z r H a xs) : SqT K H a xs := h.elim (fun z => .inl z.1) StatT.sq
theorem LstAt.sq {K : PySem.W.Frag} {Z : PZ} {r : List Addr} {H : Hp} {a : Addr} {xs : List V} (h : LstAt Z r H a xs) : SqL K H a xs := .inl (.inl h.1)
theorem RolAt.sq {K : PySem.W.Frag} {Z : PZ} {r : List Addr} {H : Hp} {a : Addr} {xs : List V} (h : RolAt K Z r H a xs) : SqL K H a xs := h.elim (fun z => .inl z.1) StatL.sq

mutual
/-- the value v is the tree d -/
def VR (K : PySem.W.Frag) (Z : PZ) (r : List Addr) (H : Hp) : D → V → Prop
  | .non, v => v = .non
  | .bl b, v => v = .bl b
  | .int i, v => v = .int i
  | .str x, v => v = .str x
  | .tup ds, v => ∃ a xs, v = .ref a ∧ TupAt K Z r H a xs ∧ VRs K Z r H ds xs
  | .lst ds, v => ∃ a xs, v = .ref a ∧ LstAt Z r H a xs ∧ VRs K Z r H ds xs
  | .rol ds, v => ∃ a xs, v = .ref a ∧ RolAt K Z r H a xs ∧ VRs K Z r H ds xs
  | .obj c ns fs, v => ∃ a dx xs, v = .ref a ∧ H a = some (.ins (He.ga K c) dx (ns.zip xs)) ∧ ¬ Held Z r a ∧ ns.length = xs.length ∧ VRs K Z r H fs xs
  | .dct ks fs, v => ∃ a xs, v = .ref a ∧ H a = some (.dK (ks.zip xs)) ∧ ¬ Held Z r a ∧ ks.length = xs.length ∧ VRs K Z r H fs xs
  | .ref n, v => ∃ a, v = .ref a ∧ r[n]? = some a
def VRs (K : PySem.W.Frag) (Z : PZ) (r : List Addr) (H : Hp) : List D → List V → Prop
  | [], xs => xs = []
  | d :: ds, xs => ∃ x t, xs = x :: t ∧ VR K Z r H d x ∧ VRs K Z r H ds t
end

/-- no locked thing -/
def NF : Option HO → Prop
  | some (.frz _ _) => False
  | _ => True
/-- from one heap to a later one: new cells behind, all but the cells stays -/
structure Ext0 (r : List Addr) (H : Hp) (r' : List Addr) (H' : Hp) : Prop where
  pre : ∃ t, r' = r ++ t ∧ ∀ a ∈ t, H a = none
  keep : ∀ a o, H a = some o → a ∉ r → H' a = some o
  still : ∀ a, H a ≠ none → H' a ≠ none
/-- .. and what is locked stays locked -/
structure Ext (r : List Addr) (H : Hp) (r' : List Addr) (H' : Hp) : Prop extends Ext0 r H r' H' where
  fz : ∀ a o u, H a = some (.frz o u) → H' a = some (.frz o u)
theorem Ext.refl (r : List Addr) (H : Hp) : Ext r H r H := ⟨⟨⟨[], by simp, fun a h => by cases h⟩, fun _ _ h _ => h, fun _ h => h⟩, fun _ _ _ h => h⟩
theorem Ext0.notin {r r' : List Addr} {H H' : Hp} (e : Ext0 r H r' H') {a : Addr} {o : HO} (h : H a = some o) (hr : a ∉ r) : a ∉ r' := by
  obtain ⟨t, rfl, ht⟩ := e.pre
  intro hm
  rcases List.mem_append.mp hm with h1 | h1
  · exact hr h1
  · rw [ht a h1] at h; cases h
theorem Ext0.trans {r r1 r2 : List Addr} {H H1 H2 : Hp} (a : Ext0 r H r1 H1) (b : Ext0 r1 H1 r2 H2) : Ext0 r H r2 H2 := by
  refine ⟨?_, fun x o h hx => b.keep x o (a.keep x o h hx) (a.notin h hx), fun x h => b.still x (a.still x h)⟩
  obtain ⟨t1, rfl, h1⟩ := a.pre
  obtain ⟨t2, rfl, h2⟩ := b.pre
  refine ⟨t1 ++ t2, by rw [List.append_assoc], fun x hx => ?_⟩
  rcases List.mem_append.mp hx with hx | hx
  · exact h1 x hx
  · cases q : H x with
    | none => rfl
    | some o => exact absurd (h2 x hx) (a.still x (by rw [q]; exact fun z => by cases z))
theorem Ext.trans {r r1 r2 : List Addr} {H H1 H2 : Hp} (a : Ext r H r1 H1) (b : Ext r1 H1 r2 H2) : Ext r H r2 H2 :=
  ⟨a.toExt0.trans b.toExt0, fun x o u h => b.fz x o u (a.fz x o u h)⟩
theorem Ext0.get {r r' : List Addr} {H H' : Hp} (e : Ext0 r H r' H') {n : Nat} {a : Addr} (h : r[n]? = some a) : r'[n]? = some a := by
  obtain ⟨t, rfl, _⟩ := e.pre
  have := (List.getElem?_eq_some_iff.mp h).1
  rw [List.getElem?_append_left this]; exact h
theorem Ext0.held {r r' : List Addr} {H H' : Hp} (e : Ext0 r H r' H') {Z : PZ} {a : Addr} {o : HO} (h : H a = some o) (hn : ¬ Held Z r a) : ¬ Held Z r' a := by
  rintro (z | z)
  · exact hn (.inl z)
  · exact e.notin h (fun q => hn (.inr q)) z
theorem Ext0.rd {r r' : List Addr} {H H' : Hp} (e : Ext0 r H r' H') {Z : PZ} {a : Addr} {u : HO} (h : Rd H a u) (hn : ¬ Held Z r a) : Rd H' a u ∧ ¬ Held Z r' a := by
  rcases h with h | ⟨o, h⟩
  · exact ⟨.inl (e.keep a _ h fun q => hn (.inr q)), e.held h hn⟩
  · exact ⟨.inr ⟨o, e.keep a _ h fun q => hn (.inr q)⟩, e.held h hn⟩

section
variable {K : PySem.W.Frag} {Z : PZ} {r r' : List Addr} {H H' : Hp}
mutual
theorem VR.ext0 (e : Ext0 r H r' H') : ∀ (d : D) {v : V}, VR K Z r H d v → VR K Z r' H' d v
  | .non, v, h => by simpa [VR] using h
  | .bl b, v, h => by simpa [VR] using h
  | .int i, v, h => by simpa [VR] using h
  | .str x, v, h => by simpa [VR] using h
  | .tup ds, v, h => by
    rw [VR] at h ⊢
    obtain ⟨a, xs, ev, ht, hs⟩ := h
    exact ⟨a, xs, ev, ht.elim (fun z => .inl (e.rd z.1 z.2)) .inr, VRs.ext0 e ds hs⟩
  | .lst ds, v, h => by
    rw [VR] at h ⊢
    obtain ⟨a, xs, ev, ht, hs⟩ := h
    exact ⟨a, xs, ev, ⟨e.keep a _ ht.1 fun q => ht.2 (.inr q), e.held ht.1 ht.2⟩, VRs.ext0 e ds hs⟩
  | .rol ds, v, h => by
    rw [VR] at h ⊢
    obtain ⟨a, xs, ev, ht, hs⟩ := h
    exact ⟨a, xs, ev, ht.elim (fun z => .inl (e.rd z.1 z.2)) .inr, VRs.ext0 e ds hs⟩
  | .obj c ns fs, v, h => by
    rw [VR] at h ⊢
    obtain ⟨a, dx, xs, ev, ht, hn, hl, hs⟩ := h
    exact ⟨a, dx, xs, ev, e.keep a _ ht fun q => hn (.inr q), e.held ht hn, hl, VRs.ext0 e fs hs⟩
  | .dct ks fs, v, h => by
    rw [VR] at h ⊢
    obtain ⟨a, xs, ev, ht, hn, hl, hs⟩ := h
    exact ⟨a, xs, ev, e.keep a _ ht fun q => hn (.inr q), e.held ht hn, hl, VRs.ext0 e fs hs⟩
  | .ref n, v, h => by
    rw [VR] at h ⊢
    obtain ⟨a, ev, hr⟩ := h
    exact ⟨a, ev, e.get hr⟩
theorem VRs.ext0 (e : Ext0 r H r' H') : ∀ (ds : List D) {xs : List V}, VRs K Z r H ds xs → VRs K Z r' H' ds xs
  | [], xs, h => by simpa [VRs] using h
  | d :: ds, xs, h => by
    rw [VRs] at h ⊢
    obtain ⟨x, t, ev, h1, h2⟩ := h
    exact ⟨x, t, ev, VR.ext0 e d h1, VRs.ext0 e ds h2⟩
end
theorem VR.ext (e : Ext r H r' H') (d : D) {v : V} (h : VR K Z r H d v) : VR K Z r' H' d v := VR.ext0 e.toExt0 d h
theorem VRs.ext (e : Ext r H r' H') (ds : List D) {xs : List V} (h : VRs K Z r H ds xs) : VRs K Z r' H' ds xs := VRs.ext0 e.toExt0 ds h
end
end ME
set_option Elab.async false
set_option linter.all false
set_option maxRecDepth 100000
set_option maxHeartbeats 4000000
namespace ME
open PySem PySem.Spec PyProof.Rows L2
section
variable {K : PySem.W.Frag} {Z Z' : PZ} {r r' : List Addr} {H H' : Hp}
theorem VRs.nil : VRs K Z r H [] [] := by rw [VRs]
theorem VRs.cons {d : D} {ds : List D} {x : V} {xs : List V} (h : VR K Z r H d x) (t : VRs K Z r H ds xs) : VRs K Z r H (d :: ds) (x :: xs) := by
  rw [VRs]; exact ⟨x, xs, rfl, h, t⟩
theorem VRs.inv_nil {xs : List V} (h : VRs K Z r H [] xs) : xs = [] := by rw [VRs] at h; exact h
theorem VRs.inv_cons {d : D} {ds : List D} {xs : List V} (h : VRs K Z r H (d :: ds) xs) : ∃ x t, xs = x :: t ∧ VR K Z r H d x ∧ VRs K Z r H ds t := by rw [VRs] at h; exact h
theorem VRs.length : ∀ {ds : List D} {xs : List V}, VRs K Z r H ds xs → xs.length = ds.length
  | [], xs, h => by rw [h.inv_nil]; rfl
  | d :: ds, xs, h => by
    obtain ⟨x, t, rfl, _, h2⟩ := h.inv_cons
    rw [List.length_cons, List.length_cons, VRs.length h2]
theorem VRs.get : ∀ {ds : List D} {xs : List V} {n : Nat} {d : D}, VRs K Z r H ds xs → ds[n]? = some d → ∃ x, xs[n]? = some x ∧ VR K Z r H d x
  | [], xs, n, d, h, e => by simp at e
  | d :: ds, xs, 0, d', h, e => by
    obtain ⟨x, t, rfl, h1, _⟩ := h.inv_cons
    have e' : d = d' := by simpa using e
    subst e'
    exact ⟨x, rfl, h1⟩
  | d :: ds, xs, n + 1, d', h, e => by
    obtain ⟨x, t, rfl, _, h2⟩ := h.inv_cons
    obtain ⟨y, h3, h4⟩ := VRs.get (n := n) (d := d') h2 (by simpa using e)
    exact ⟨y, by simpa using h3, h4⟩
theorem VRs.append : ∀ {ds es : List D} {xs ys : List V}, VRs K Z r H ds xs → VRs K Z r H es ys → VRs K Z r H (ds ++ es) (xs ++ ys)
  | [], es, xs, ys, h, h' => by rw [h.inv_nil]; exact h'
  | d :: ds, es, xs, ys, h, h' => by
    obtain ⟨x, t, rfl, h1, h2⟩ := h.inv_cons
    exact .cons h1 (VRs.append h2 h')
theorem VRs.take : ∀ (n : Nat) {ds : List D} {xs : List V}, VRs K Z r H ds xs → VRs K Z r H (ds.take n) (xs.take n)
  | 0, ds, xs, h => by simpa using VRs.nil
  | n + 1, [], xs, h => by rw [h.inv_nil]; simpa using VRs.nil
  | n + 1, d :: ds, xs, h => by
    obtain ⟨x, t, rfl, h1, h2⟩ := h.inv_cons
    exact .cons h1 (VRs.take n h2)
theorem VRs.drop : ∀ (n : Nat) {ds : List D} {xs : List V}, VRs K Z r H ds xs → VRs K Z r H (ds.drop n) (xs.drop n)
  | 0, ds, xs, h => h
  | n + 1, [], xs, h => by rw [h.inv_nil]; simpa using VRs.nil
  | n + 1, d :: ds, xs, h => by
    obtain ⟨x, t, rfl, h1, h2⟩ := h.inv_cons
    exact VRs.drop n h2
theorem VRs.set : ∀ (n : Nat) {ds : List D} {xs : List V} {d : D} {x : V}, VRs K Z r H ds xs → VR K Z r H d x → VRs K Z r H (ds.set n d) (xs.set n x)
  | n, [], xs, d, x, h, h' => by rw [h.inv_nil]; simpa using VRs.nil
  | 0, d0 :: ds, xs, d, x, h, h' => by
    obtain ⟨y, t, rfl, h1, h2⟩ := h.inv_cons
    exact .cons h' h2
  | n + 1, d0 :: ds, xs, d, x, h, h' => by
    obtain ⟨y, t, rfl, h1, h2⟩ := h.inv_cons
    exact .cons h1 (VRs.set n h2 h')
theorem VRs.ints : ∀ (ns : List Int), VRs K Z r H (ns.map D.int) (ns.map V.int)
  | [] => VRs.nil
  | n :: ns => .cons (by rw [VR]) (VRs.ints ns)

/-! ### without cells -/
mutual
def D.closed : D → Bool
  | .tup ds => D.closeds ds
  | .lst ds => D.closeds ds
  | .rol ds => D.closeds ds
  | .obj _ _ fs => D.closeds fs
  | .dct _ fs => D.closeds fs
  | .ref _ => false
  | _ => true
def D.closeds : List D → Bool
  | [] => true
  | d :: ds => d.closed && D.closeds ds
end
/-- what is held changes, and the cells, of a tree without cells -/
structure Loose (Z : PZ) (r : List Addr) (Z' : PZ) (r' : List Addr) : Prop where
  held : ∀ a, Held Z' r' a → Held Z r a
mutual
theorem VR.loose (l : Loose Z r Z' r') : ∀ (d : D) {v : V}, d.closed = true → VR K Z r H d v → VR K Z' r' H d v
  | .non, v, _, h => by simpa [VR] using h
  | .bl b, v, _, h => by simpa [VR] using h
  | .int i, v, _, h => by simpa [VR] using h
  | .str x, v, _, h => by simpa [VR] using h
  | .tup ds, v, c, h => by
    rw [VR] at h ⊢
    rw [D.closed] at c
    obtain ⟨a, xs, ev, ht, hs⟩ := h
    exact ⟨a, xs, ev, ht.elim (fun z => .inl ⟨z.1, fun q => z.2 (l.held a q)⟩) .inr, VRs.loose l ds c hs⟩
  | .lst ds, v, c, h => by
    rw [VR] at h ⊢
    rw [D.closed] at c
    obtain ⟨a, xs, ev, ht, hs⟩ := h
    exact ⟨a, xs, ev, ⟨ht.1, fun q => ht.2 (l.held a q)⟩, VRs.loose l ds c hs⟩
  | .rol ds, v, c, h => by
    rw [VR] at h ⊢
    rw [D.closed] at c
    obtain ⟨a, xs, ev, ht, hs⟩ := h
    exact ⟨a, xs, ev, ht.elim (fun z => .inl ⟨z.1, fun q => z.2 (l.held a q)⟩) .inr, VRs.loose l ds c hs⟩
  | .obj cl ns fs, v, c, h => by
    rw [VR] at h ⊢
    rw [D.closed] at c
    obtain ⟨a, dx, xs, ev, ht, hn, hl, hs⟩ := h
    exact ⟨a, dx, xs, ev, ht, fun q => hn (l.held a q), hl, VRs.loose l fs c hs⟩
  | .dct ks fs, v, c, h => by
    rw [VR] at h ⊢
    rw [D.closed] at c
    obtain ⟨a, xs, ev, ht, hn, hl, hs⟩ := h
    exact ⟨a, xs, ev, ht, fun q => hn (l.held a q), hl, VRs.loose l fs c hs⟩
  | .ref n, v, c, h => by rw [D.closed] at c; cases c
theorem VRs.loose (l : Loose Z r Z' r') : ∀ (ds : List D) {xs : List V}, D.closeds ds = true → VRs K Z r H ds xs → VRs K Z' r' H ds xs
  | [], xs, _, h => by simpa [VRs] using h
  | d :: ds, xs, c, h => by
    rw [VRs] at h ⊢
    rw [D.closeds, Bool.and_eq_true] at c
    obtain ⟨x, t, ev, h1, h2⟩ := h
    exact ⟨x, t, ev, VR.loose l d c.1 h1, VRs.loose l ds c.2 h2⟩
end

/-! ### the store -/
def CR (K : PySem.W.Frag) (Z : PZ) (r : List Addr) (H : Hp) : Cell → Addr → Prop
  | .lst ds, a => ∃ xs, H a = some (.lst xs) ∧ VRs K Z r H ds xs
  | .dct ks ds, a => ∃ xs, H a = some (.dK (ks.zip xs)) ∧ ks.length = xs.length ∧ VRs K Z r H ds xs
  | .ins c ns fs, a => ∃ dx xs, H a = some (.ins (He.ga K c) dx (ns.zip xs)) ∧ ns.length = xs.length ∧ VRs K Z r H fs xs
  | .lok ks ds, a => ∃ o xs, H a = some (.frz o (.dK (ks.zip xs))) ∧ ks.length = xs.length ∧ VRs K Z r H ds xs
theorem CR.some {c : Cell} {a : Addr} (h : CR K Z r H c a) : H a ≠ none := by
  cases c with
  | lst ds => obtain ⟨xs, e, _⟩ := h; rw [e]; exact fun z => by cases z
  | dct ks ds => obtain ⟨xs, e, _⟩ := h; rw [e]; exact fun z => by cases z
  | ins c ns fs => obtain ⟨dx, xs, e, _⟩ := h; rw [e]; exact fun z => by cases z
  | lok ks ds => obtain ⟨o, xs, e, _⟩ := h; rw [e]; exact fun z => by cases z
theorem CR.to0 {c : Cell} {a : Addr} (h : CR K Z r H c a) (e : Ext0 r H r' H') (ha : H' a = H a) : CR K Z r' H' c a := by
  cases c with
  | lst ds => obtain ⟨xs, q, hs⟩ := h; exact ⟨xs, ha.trans q, hs.ext0 e⟩
  | dct ks ds => obtain ⟨xs, q, hl, hs⟩ := h; exact ⟨xs, ha.trans q, hl, hs.ext0 e⟩
  | ins c ns fs => obtain ⟨dx, xs, q, hl, hs⟩ := h; exact ⟨dx, xs, ha.trans q, hl, hs.ext0 e⟩
  | lok ks ds => obtain ⟨o, xs, q, hl, hs⟩ := h; exact ⟨o, xs, ha.trans q, hl, hs.ext0 e⟩
theorem CR.to {c : Cell} {a : Addr} (h : CR K Z r H c a) (e : Ext r H r' H') (ha : H' a = H a) : CR K Z r' H' c a := h.to0 e.toExt0 ha
structure SR (K : PySem.W.Frag) (Z : PZ) (r : List Addr) (H : Hp) (m : Sto) : Prop where
  len : r.length = m.length
  nd : r.Nodup
  cells : ∀ (n : Nat) c a, m[n]? = some c → r[n]? = some a → CR K Z r H c a
  zt : ∀ a, Z a → H a ≠ none
  zr : ∀ a ∈ r, ¬ Z a
theorem SR.empty (h : ∀ a, Z a → H a ≠ none) : SR K Z [] H [] := ⟨rfl, List.nodup_nil, fun n c a e => by simp at e, h, fun a z => by cases z⟩
theorem SR.at (s : SR K Z r H m) {n : Nat} {c : Cell} (e : m[n]? = some c) : ∃ a, r[n]? = some a ∧ CR K Z r H c a := by
  have h1 := (List.getElem?_eq_some_iff.mp e).1
  have h2 : n < r.length := by rw [s.len]; exact h1
  exact ⟨r[n], List.getElem?_eq_getElem h2, s.cells n c _ e (List.getElem?_eq_getElem h2)⟩
theorem SR.tracked (s : SR K Z r H m) {a : Addr} (h : a ∈ r) : H a ≠ none := by
  obtain ⟨n, hn⟩ := List.getElem?_of_mem h
  have h1 := (List.getElem?_eq_some_iff.mp hn).1
  rw [s.len] at h1
  exact (s.cells n _ a (List.getElem?_eq_getElem h1) hn).some
theorem SR.fresh (s : SR K Z r H m) {p : Addr} (h : H p = none) : ¬ Held Z r p := by
  rintro (z | z)
  · exact s.zt p z h
  · exact s.tracked z h
/-- a new object that is no cell -/
theorem Ext.obj {p : Addr} {o : HO} (h : H p = none) : Ext r H r (upd H p o) := by
  refine ⟨⟨⟨[], by simp, fun a z => by cases z⟩, fun a u e _ => ?_, fun a e => ?_⟩, fun a u w e => by rw [upd_ne (ne_of_none e h)]; exact e⟩
  · rw [upd_ne (ne_of_none e h)]; exact e
  · by_cases hp : a = p
    · subst hp; exact absurd h e
    · rw [upd_ne hp]; exact e
theorem SR.obj {m : Sto} {p : Addr} {o : HO} (s : SR K Z r H m) (h : H p = none) : SR K Z r (upd H p o) m := by
  have e : Ext r H r (upd H p o) := .obj h
  refine ⟨s.len, s.nd, fun n c a e1 e2 => ?_, fun a z => e.still a (s.zt a z), s.zr⟩
  have q := s.cells n c a e1 e2
  exact q.to e (upd_ne fun z => q.some (by rw [z]; exact h))
/-- a new cell -/
theorem Ext.cell {p : Addr} {o : HO} (h : H p = none) : Ext r H (r ++ [p]) (upd H p o) := by
  refine ⟨⟨⟨[p], rfl, fun a z => by rw [List.mem_singleton.mp z]; exact h⟩, fun a u e _ => ?_, fun a e => ?_⟩, fun a u w e => by rw [upd_ne (ne_of_none e h)]; exact e⟩
  · rw [upd_ne (ne_of_none e h)]; exact e
  · by_cases hp : a = p
    · subst hp; exact absurd h e
    · rw [upd_ne hp]; exact e
theorem SR.cell {m : Sto} {p : Addr} {o : HO} {c : Cell} (s : SR K Z r H m) (h : H p = none) (hc : CR K Z (r ++ [p]) (upd H p o) c p) : SR K Z (r ++ [p]) (upd H p o) (m ++ [c]) := by
  have e : Ext r H (r ++ [p]) (upd H p o) := .cell h
  refine ⟨by simp [s.len], ?_, fun n c' a e1 e2 => ?_, fun a z => e.still a (s.zt a z), fun a ha => (List.mem_append.mp ha).elim (s.zr a) fun q z => ?_⟩
  rotate_left 2
  · rw [List.mem_singleton.mp q] at z; exact s.zt p z h
  · refine List.nodup_append.mpr ⟨s.nd, by simp, fun a ha b hb => ?_⟩
    rw [List.mem_singleton.mp hb]
    rintro rfl
    exact s.tracked ha h
  · by_cases hn : n < m.length
    · rw [List.getElem?_append_left hn] at e1
      rw [List.getElem?_append_left (by rw [s.len]; exact hn)] at e2
      have q := s.cells n c' a e1 e2
      exact q.to e (upd_ne fun z => q.some (by rw [z]; exact h))
    · have hz : n = m.length := by
        have := (List.getElem?_eq_some_iff.mp e1).1
        simp at this; omega
      subst hz
      have e1' : c = c' := by simpa using e1
      have e2' : p = a := by rw [← s.len] at e2; simpa using e2
      subst e1' e2'
      exact hc
/-- a cell written -/
theorem Ext0.write {n : Nat} {a : Addr} {o : HO} (h : r[n]? = some a) : Ext0 r H r (upd H a o) := by
  refine ⟨⟨[], by simp, fun a z => by cases z⟩, fun b u e hb => ?_, fun b e => ?_⟩
  · rw [upd_ne fun z => hb (by rw [z]; exact List.mem_of_getElem? h)]; exact e
  · by_cases hp : b = a
    · subst hp; rw [upd_same]; exact fun z => by cases z
    · rw [upd_ne hp]; exact e
theorem Ext.write {n : Nat} {a : Addr} {o : HO} (h : r[n]? = some a) (hn : NF (H a)) : Ext r H r (upd H a o) := by
  refine ⟨Ext0.write h, fun b u w e => ?_⟩
  rw [upd_ne fun z => ?_]
  · exact e
  · subst z; rw [e] at hn; exact hn
theorem SR.write {m : Sto} {n : Nat} {a : Addr} {o : HO} {c : Cell} (s : SR K Z r H m) (h : r[n]? = some a) (hc : CR K Z r (upd H a o) c a) : SR K Z r (upd H a o) (m.set n c) := by
  have e : Ext0 r H r (upd H a o) := .write h
  refine ⟨by simpa using s.len, s.nd, fun k c' b e1 e2 => ?_, fun b z => e.still b (s.zt b z), s.zr⟩
  by_cases hk : n = k
  · subst hk
    rw [h] at e2; cases e2
    have hl : n < m.length := by
      have := (List.getElem?_eq_some_iff.mp h).1
      rw [s.len] at this; exact this
    rw [List.getElem?_set_self hl] at e1; cases e1
    exact hc
  · rw [List.getElem?_set_ne hk] at e1
    have q := s.cells k c' b e1 e2
    refine q.to0 e (upd_ne fun z => ?_)
    subst z
    exact hk ((List.getElem_inj s.nd).mp ((List.getElem?_eq_some_iff.mp h).2.trans (List.getElem?_eq_some_iff.mp e2).2.symm))
end
end ME
set_option Elab.async false
set_option linter.all false
set_option maxRecDepth 100000
set_option maxHeartbeats 4000000
namespace ME
open PySem PySem.Spec PyProof.Rows L2
/-- what a piece of a program comes to: a value and the cells behind it; an error of a class with its field's value; or nothing is known -/
inductive Res (α : Type) where
  | ok (a : α) (m : Sto)
  | exc (c : Str) (es : List D) (m : Sto)
  | stuck
def Res.bind {α β : Type} (r : Res α) (f : α → Sto → Res β) : Res β := match r with
  | .ok a m => f a m
  | .exc c es m => .exc c es m
  | .stuck => .stuck
@[simp] theorem Res.bind_ok {α β : Type} (a : α) (m : Sto) (f : α → Sto → Res β) : (Res.ok a m).bind f = f a m := rfl
@[simp] theorem Res.bind_exc {α β : Type} (c : Str) (es : List D) (m : Sto) (f : α → Sto → Res β) : (Res.exc c es m : Res α).bind f = .exc c es m := rfl
@[simp] theorem Res.bind_stuck {α β : Type} (f : α → Sto → Res β) : (Res.stuck : Res α).bind f = .stuck := rfl

/-- the field of an error of the text -/
def fieldOf (c : Str) : Str := if c ∈ (["InvalidUpper", "InvalidLower", "InvalidRow", "InvalidTable", "InvalidSeen", "InvalidPairs", "Broken"] : List Str) then "index" else "given"
/-- the error's class and its own dict -/
def ExcAt (K : PySem.W.Frag) (Z : PZ) (r : List Addr) (H : Hp) (c : Str) (es : List D) (C : Value) (o : Option Addr) : Prop :=
  C = .ref (He.ga K c) ∧ ∀ d, es = [d] → ∃ dx v, o = some dx ∧ H dx = some (.xd [(fieldOf c, v)]) ∧ VR K Z r H d v
/-- what is wanted of a value (Q) or of an error (E) holds of a result -/
def GE (K : PySem.W.Frag) (Z : PZ) (r : List Addr) (H : Hp) (x : Res D) (Q : VK) (E : XK) : Prop := match x with
  | .ok d m => ∀ v H' r', Ext r H r' H' → SR K Z r' H' m → VR K Z r' H' d v → Q v H'
  | .exc c es m => ∀ C o H' r', Ext r H r' H' → SR K Z r' H' m → ExcAt K Z r' H' c es C o → E C o H'
  | .stuck => False
/-- the same of lists of values -/
def GA (K : PySem.W.Frag) (Z : PZ) (r : List Addr) (H : Hp) (x : Res (List D)) (Q : List V → Hp → Prop) (E : XK) : Prop := match x with
  | .ok ds m => ∀ vs H' r', Ext r H r' H' → SR K Z r' H' m → VRs K Z r' H' ds vs → Q vs H'
  | .exc c es m => ∀ C o H' r', Ext r H r' H' → SR K Z r' H' m → ExcAt K Z r' H' c es C o → E C o H'
  | .stuck => False
/-- .. of tests -/
def GB (K : PySem.W.Frag) (Z : PZ) (r : List Addr) (H : Hp) (x : Res Bool) (Q : Bool → Hp → Prop) (E : XK) : Prop := match x with
  | .ok b m => ∀ H' r', Ext r H r' H' → SR K Z r' H' m → Q b H'
  | .exc c es m => ∀ C o H' r', Ext r H r' H' → SR K Z r' H' m → ExcAt K Z r' H' c es C o → E C o H'
  | .stuck => False
section
variable {K : PySem.W.Frag} {Z : PZ} {r r' : List Addr} {H H' : Hp} {E : XK}
theorem GE.ext {x : Res D} {Q : VK} (e : Ext r H r' H') (g : GE K Z r H x Q E) : GE K Z r' H' x Q E := by
  cases x with
  | ok d m => exact fun v H2 r2 e2 s h => g v H2 r2 (e.trans e2) s h
  | exc c es m => exact fun C o H2 r2 e2 s h => g C o H2 r2 (e.trans e2) s h
  | stuck => exact g
theorem GA.ext {x : Res (List D)} {Q : List V → Hp → Prop} (e : Ext r H r' H') (g : GA K Z r H x Q E) : GA K Z r' H' x Q E := by
  cases x with
  | ok d m => exact fun v H2 r2 e2 s h => g v H2 r2 (e.trans e2) s h
  | exc c es m => exact fun C o H2 r2 e2 s h => g C o H2 r2 (e.trans e2) s h
  | stuck => exact g
theorem GB.ext {x : Res Bool} {Q : Bool → Hp → Prop} (e : Ext r H r' H') (g : GB K Z r H x Q E) : GB K Z r' H' x Q E := by
  cases x with
  | ok d m => exact fun H2 r2 e2 s => g H2 r2 (e.trans e2) s
  | exc c es m => exact fun C o H2 r2 e2 s h => g C o H2 r2 (e.trans e2) s h
  | stuck => exact g
/-- a first step, then the rest -/
theorem GE.bind {x : Res D} {f : D → Sto → Res D} {Q : VK} (g : GE K Z r H (x.bind f) Q E) :
    GE K Z r H x (fun v H1 => ∃ r1 d m1, Ext r H r1 H1 ∧ SR K Z r1 H1 m1 ∧ VR K Z r1 H1 d v ∧ x = .ok d m1 ∧ GE K Z r1 H1 (f d m1) Q E) E := by
  cases x with
  | ok d m => exact fun v H2 r2 e2 s h => ⟨r2, d, m, e2, s, h, rfl, GE.ext e2 g⟩
  | exc c es m => exact g
  | stuck => exact g
theorem GE.bindA {x : Res (List D)} {f : List D → Sto → Res D} {Q : VK} (g : GE K Z r H (x.bind f) Q E) :
    GA K Z r H x (fun vs H1 => ∃ r1 ds m1, Ext r H r1 H1 ∧ SR K Z r1 H1 m1 ∧ VRs K Z r1 H1 ds vs ∧ x = .ok ds m1 ∧ GE K Z r1 H1 (f ds m1) Q E) E := by
  cases x with
  | ok d m => exact fun v H2 r2 e2 s h => ⟨r2, d, m, e2, s, h, rfl, GE.ext e2 g⟩
  | exc c es m => exact g
  | stuck => exact g
theorem GE.bindB {x : Res Bool} {f : Bool → Sto → Res D} {Q : VK} (g : GE K Z r H (x.bind f) Q E) :
    GB K Z r H x (fun b H1 => ∃ r1 m1, Ext r H r1 H1 ∧ SR K Z r1 H1 m1 ∧ x = .ok b m1 ∧ GE K Z r1 H1 (f b m1) Q E) E := by
  cases x with
  | ok d m => exact fun H2 r2 e2 s => ⟨r2, m, e2, s, rfl, GE.ext e2 g⟩
  | exc c es m => exact g
  | stuck => exact g
theorem GA.bind {x : Res D} {f : D → Sto → Res (List D)} {Q : List V → Hp → Prop} (g : GA K Z r H (x.bind f) Q E) :
    GE K Z r H x (fun v H1 => ∃ r1 d m1, Ext r H r1 H1 ∧ SR K Z r1 H1 m1 ∧ VR K Z r1 H1 d v ∧ x = .ok d m1 ∧ GA K Z r1 H1 (f d m1) Q E) E := by
  cases x with
  | ok d m => exact fun v H2 r2 e2 s h => ⟨r2, d, m, e2, s, h, rfl, GA.ext e2 g⟩
  | exc c es m => exact g
  | stuck => exact g
theorem GA.bindA {x : Res (List D)} {f : List D → Sto → Res (List D)} {Q : List V → Hp → Prop} (g : GA K Z r H (x.bind f) Q E) :
    GA K Z r H x (fun vs H1 => ∃ r1 ds m1, Ext r H r1 H1 ∧ SR K Z r1 H1 m1 ∧ VRs K Z r1 H1 ds vs ∧ x = .ok ds m1 ∧ GA K Z r1 H1 (f ds m1) Q E) E := by
  cases x with
  | ok d m => exact fun v H2 r2 e2 s h => ⟨r2, d, m, e2, s, h, rfl, GA.ext e2 g⟩
  | exc c es m => exact g
  | stuck => exact g
theorem GB.bind {x : Res D} {f : D → Sto → Res Bool} {Q : Bool → Hp → Prop} (g : GB K Z r H (x.bind f) Q E) :
    GE K Z r H x (fun v H1 => ∃ r1 d m1, Ext r H r1 H1 ∧ SR K Z r1 H1 m1 ∧ VR K Z r1 H1 d v ∧ x = .ok d m1 ∧ GB K Z r1 H1 (f d m1) Q E) E := by
  cases x with
  | ok d m => exact fun v H2 r2 e2 s h => ⟨r2, d, m, e2, s, h, rfl, GB.ext e2 g⟩
  | exc c es m => exact g
  | stuck => exact g
theorem GB.bindB {x : Res Bool} {f : Bool → Sto → Res Bool} {Q : Bool → Hp → Prop} (g : GB K Z r H (x.bind f) Q E) :
    GB K Z r H x (fun b H1 => ∃ r1 m1, Ext r H r1 H1 ∧ SR K Z r1 H1 m1 ∧ x = .ok b m1 ∧ GB K Z r1 H1 (f b m1) Q E) E := by
  cases x with
  | ok d m => exact fun H2 r2 e2 s => ⟨r2, m, e2, s, rfl, GB.ext e2 g⟩
  | exc c es m => exact g
  | stuck => exact g
theorem GE.mono {x : Res D} {Q Q' : VK} (g : GE K Z r H x Q E) (h : ∀ v H', Q v H' → Q' v H') : GE K Z r H x Q' E := by
  cases x with
  | ok d m => exact fun v H2 r2 e2 s q => h _ _ (g v H2 r2 e2 s q)
  | exc c es m => exact g
  | stuck => exact g
/-- a value at hand -/
theorem GE.now {d : D} {m : Sto} {Q : VK} {v : V} (g : GE K Z r H (.ok d m) Q E) (s : SR K Z r H m) (h : VR K Z r H d v) : Q v H := g v H r (.refl r H) s h
theorem GB.now {b : Bool} {m : Sto} {Q : Bool → Hp → Prop} (g : GB K Z r H (.ok b m) Q E) (s : SR K Z r H m) : Q b H := g H r (.refl r H) s
/-- a new tuple, a new list that is not changed -/
theorem VRs.obj {ds : List D} {xs : List V} {p : Addr} {o : HO} (h : VRs K Z r H ds xs) (hp : H p = none) : VRs K Z r (upd H p o) ds xs := h.ext (.obj hp)
theorem GE.tup {ds : List D} {m : Sto} {Q : VK} {xs : List V} {p : Addr} (g : GE K Z r H (.ok (.tup ds) m) Q E) (s : SR K Z r H m) (h : VRs K Z r H ds xs) (hp : H p = none) : Q (.ref p) (upd H p (.tup xs)) := by
  refine g _ _ r (.obj hp) (s.obj hp) ?_
  rw [VR]
  exact ⟨p, xs, rfl, .inl ⟨.inl upd_same, s.fresh hp⟩, h.obj hp⟩
theorem GE.lst {ds : List D} {m : Sto} {Q : VK} {xs : List V} {p : Addr} (g : GE K Z r H (.ok (.lst ds) m) Q E) (s : SR K Z r H m) (h : VRs K Z r H ds xs) (hp : H p = none) : Q (.ref p) (upd H p (.lst xs)) := by
  refine g _ _ r (.obj hp) (s.obj hp) ?_
  rw [VR]
  exact ⟨p, xs, rfl, ⟨upd_same, s.fresh hp⟩, h.obj hp⟩
/-- a new list that may be changed -/
theorem GE.cell {ds : List D} {m : Sto} {Q : VK} {xs : List V} {p : Addr} (g : GE K Z r H (.ok (.ref m.length) (m ++ [.lst ds])) Q E) (s : SR K Z r H m) (h : VRs K Z r H ds xs) (hp : H p = none) : Q (.ref p) (upd H p (.lst xs)) := by
  have e : Ext r H (r ++ [p]) (upd H p (.lst xs)) := .cell hp
  refine g _ _ _ e (s.cell hp ⟨xs, upd_same, h.ext e⟩) ?_
  rw [VR]
  refine ⟨p, rfl, ?_⟩
  rw [← s.len]; simp
/-- a cell written, None given out -/
theorem GE.wrote {c : Cell} {m : Sto} {n : Nat} {a : Addr} {o : HO} {Q : VK} {d : D} {v : V} (g : GE K Z r H (.ok d (m.set n c)) Q E) (s : SR K Z r H m) (ha : r[n]? = some a) (hn : NF (H a)) (hc : CR K Z r (upd H a o) c a) (hv : VR K Z r (upd H a o) d v) : Q v (upd H a o) :=
  g _ _ r (.write ha hn) (s.write ha hc) hv
theorem VR.nonI : VR K Z r H .non .non := by rw [VR]
theorem VR.blI {b : Bool} : VR K Z r H (.bl b) (.bl b) := by rw [VR]
theorem VR.intI {i : Int} : VR K Z r H (.int i) (.int i) := by rw [VR]
theorem VR.strI {x : Str} : VR K Z r H (.str x) (.str x) := by rw [VR]
theorem VR.int_inv {i : Int} {v : V} (h : VR K Z r H (.int i) v) : v = .int i := by rw [VR] at h; exact h
theorem VR.bl_inv {i : Bool} {v : V} (h : VR K Z r H (.bl i) v) : v = .bl i := by rw [VR] at h; exact h
theorem VR.str_inv {i : Str} {v : V} (h : VR K Z r H (.str i) v) : v = .str i := by rw [VR] at h; exact h
theorem VR.non_inv {v : V} (h : VR K Z r H .non v) : v = .non := by rw [VR] at h; exact h
theorem VR.tup_inv {ds : List D} {v : V} (h : VR K Z r H (.tup ds) v) : ∃ a xs, v = .ref a ∧ TupAt K Z r H a xs ∧ VRs K Z r H ds xs := by rw [VR] at h; exact h
theorem VR.lst_inv {ds : List D} {v : V} (h : VR K Z r H (.lst ds) v) : ∃ a xs, v = .ref a ∧ LstAt Z r H a xs ∧ VRs K Z r H ds xs := by rw [VR] at h; exact h
theorem VR.rol_inv {ds : List D} {v : V} (h : VR K Z r H (.rol ds) v) : ∃ a xs, v = .ref a ∧ RolAt K Z r H a xs ∧ VRs K Z r H ds xs := by rw [VR] at h; exact h
theorem VR.dct_inv {ks : List Key} {ds : List D} {v : V} (h : VR K Z r H (.dct ks ds) v) : ∃ a xs, v = .ref a ∧ H a = some (.dK (ks.zip xs)) ∧ ¬ Held Z r a ∧ ks.length = xs.length ∧ VRs K Z r H ds xs := by rw [VR] at h; exact h
theorem VR.ref_inv {n : Nat} {v : V} (h : VR K Z r H (.ref n) v) : ∃ a, v = .ref a ∧ r[n]? = some a := by rw [VR] at h; exact h
/-- a list whatever its kind -/
def lstOf (m : Sto) : D → Option (List D)
  | .lst ds => some ds
  | .ref n => match m[n]? with
    | some (.lst ds) => some ds
    | _ => none
  | _ => none
def lstOfR (m : Sto) : D → Option (List D)
  | .rol ds => some ds
  | d => lstOf m d
theorem SR.lst {m : Sto} (s : SR K Z r H m) {d : D} {ds : List D} {v : V} (h : VR K Z r H d v) (e : lstOf m d = some ds) : ∃ a xs, v = .ref a ∧ H a = some (.lst xs) ∧ VRs K Z r H ds xs := by
  cases d with
  | lst es =>
    cases e
    obtain ⟨a, xs, rfl, hl, hs⟩ := h.lst_inv
    exact ⟨a, xs, rfl, hl.1, hs⟩
  | ref n =>
    obtain ⟨a, rfl, ha⟩ := h.ref_inv
    have e : (match m[n]? with | some (Cell.lst ds) => some ds | _ => none) = some ds := e
    split at e
    · rename_i es em
      cases e
      obtain ⟨xs, e1, hs⟩ := s.cells n _ a em ha
      exact ⟨a, xs, rfl, e1, hs⟩
    · cases e
  | _ => cases e
theorem SR.lstR {m : Sto} (s : SR K Z r H m) {d : D} {ds : List D} {v : V} (h : VR K Z r H d v) (e : lstOfR m d = some ds) : ∃ a xs, v = .ref a ∧ SqL K H a xs ∧ VRs K Z r H ds xs := by
  by_cases hd : ∃ es, d = .rol es
  · obtain ⟨es, rfl⟩ := hd
    cases e
    obtain ⟨a, xs, rfl, hl, hs⟩ := h.rol_inv
    exact ⟨a, xs, rfl, hl.sq, hs⟩
  · have e' : lstOf m d = some ds := by
      cases d with
      | rol es => exact absurd ⟨es, rfl⟩ hd
      | _ => exact e
    obtain ⟨a, xs, ev, hl, hs⟩ := s.lst h e'
    exact ⟨a, xs, ev, .inl (.inl hl), hs⟩
/-- a list or a tuple -/
def seqOf (m : Sto) : D → Option (List D)
  | .tup ds => some ds
  | d => lstOfR m d
theorem SR.seq {m : Sto} (s : SR K Z r H m) {d : D} {ds : List D} {v : V} (h : VR K Z r H d v) (e : seqOf m d = some ds) : ∃ a xs, v = .ref a ∧ (SqL K H a xs ∨ SqT K H a xs) ∧ VRs K Z r H ds xs := by
  by_cases hd : ∃ es, d = .tup es
  · obtain ⟨es, rfl⟩ := hd
    cases e
    obtain ⟨a, xs, rfl, hl, hs⟩ := h.tup_inv
    exact ⟨a, xs, rfl, .inr hl.sq, hs⟩
  · have e' : lstOfR m d = some ds := by
      cases d with
      | tup es => exact absurd ⟨es, rfl⟩ hd
      | _ => exact e
    obtain ⟨a, xs, ev, hl, hs⟩ := s.lstR h e'
    exact ⟨a, xs, ev, .inl hl, hs⟩
end
end ME
set_option Elab.async false
set_option linter.all false
set_option maxRecDepth 100000
set_option maxHeartbeats 4000000
namespace ME
open PySem PySem.Spec PyProof.Rows L2
/-! ### equality of data -/
mutual
def D.eqv : D → D → Bool
  | .non, .non => true
  | .bl a, .bl b => a == b
  | .bl a, .int j => (if a then 1 else 0) == j
  | .int i, .bl b => i == (if b then 1 else 0)
  | .int i, .int j => i == j
  | .str x, .str y => x == y
  | .tup xs, .tup ys => D.eqvs xs ys
  | .lst xs, .lst ys => D.eqvs xs ys
  | _, _ => false
def D.eqvs : List D → List D → Bool
  | [], [] => true
  | x :: xs, y :: ys => D.eqv x y && D.eqvs xs ys
  | _, _ => false
end
mutual
/-- None, ints, bools, texts, tuples and lists that are not changed -/
def D.lay : D → Bool
  | .non => true
  | .bl _ => true
  | .int _ => true
  | .str x => PyData.strOk x
  | .tup ds => D.lays ds
  | .lst ds => D.lays ds
  | _ => false
def D.lays : List D → Bool
  | [] => true
  | d :: ds => d.lay && D.lays ds
end
mutual
def D.dep : D → Nat
  | .tup ds => D.deps ds + 1
  | .lst ds => D.deps ds + 1
  | _ => 0
def D.deps : List D → Nat
  | [] => 0
  | d :: ds => max d.dep (D.deps ds)
end
mutual
def D.py : D → PyData
  | .non => .none
  | .bl b => .bool b
  | .int i => .int i
  | .str x => .str x
  | .tup ds => .tuple (D.pys ds)
  | .lst ds => .list (D.pys ds)
  | _ => .none
def D.pys : List D → List PyData
  | [] => []
  | d :: ds => d.py :: D.pys ds
end
mutual
theorem D.py_eqv : ∀ (d e : D), d.lay = true → e.lay = true → PyData.eqv d.py e.py = D.eqv d e
  | .non, e, _, h => by cases e <;> simp_all [D.py, D.eqv, PyData.eqv, D.lay]
  | .bl b, e, _, h => by cases e <;> simp_all [D.py, D.eqv, PyData.eqv, D.lay]
  | .int b, e, _, h => by cases e <;> simp_all [D.py, D.eqv, PyData.eqv, D.lay]
  | .str b, e, _, h => by cases e <;> simp_all [D.py, D.eqv, PyData.eqv, D.lay]
  | .tup ds, e, g, h => by
    cases e with
    | tup es =>
      rw [D.lay] at g h
      simp only [D.py, D.eqv, PyData.eqv]
      exact D.pys_eqv ds es g h
    | _ => simp_all [D.py, D.eqv, PyData.eqv, D.lay]
  | .lst ds, e, g, h => by
    cases e with
    | lst es =>
      rw [D.lay] at g h
      simp only [D.py, D.eqv, PyData.eqv]
      exact D.pys_eqv ds es g h
    | _ => simp_all [D.py, D.eqv, PyData.eqv, D.lay]
  | .rol ds, e, g, h => by simp [D.lay] at g
  | .obj c ns fs, e, g, h => by simp [D.lay] at g
  | .dct ks fs, e, g, h => by simp [D.lay] at g
  | .ref n, e, g, h => by simp [D.lay] at g
theorem D.pys_eqv : ∀ (ds es : List D), D.lays ds = true → D.lays es = true → PyData.eqvAll (D.pys ds) (D.pys es) = D.eqvs ds es
  | [], [], _, _ => by simp [D.pys, D.eqvs, PyData.eqvAll]
  | [], e :: es, _, _ => by simp [D.pys, D.eqvs, PyData.eqvAll]
  | d :: ds, [], _, _ => by simp [D.pys, D.eqvs, PyData.eqvAll]
  | d :: ds, e :: es, g, h => by
    rw [D.lays, Bool.and_eq_true] at g h
    simp only [D.pys, D.eqvs, PyData.eqvAll]
    rw [D.py_eqv d e g.1 h.1, D.pys_eqv ds es g.2 h.2]
end
mutual
theorem D.py_lay : ∀ (d : D), d.lay = true → d.py.canLay0 = true ∧ d.py.depth = d.dep
  | .non, g => by simp [D.py, PyData.canLay0, PyData.depth, D.dep]
  | .bl b, g => by simp [D.py, PyData.canLay0, PyData.depth, D.dep]
  | .int b, g => by simp [D.py, PyData.canLay0, PyData.depth, D.dep]
  | .str b, g => by
    rw [D.lay] at g
    simp [D.py, PyData.canLay0, PyData.depth, D.dep, g]
  | .tup ds, g => by
    rw [D.lay] at g
    have h := D.pys_lay ds g
    simp [D.py, PyData.canLay0, PyData.depth, D.dep, h.1, h.2]
  | .lst ds, g => by
    rw [D.lay] at g
    have h := D.pys_lay ds g
    simp [D.py, PyData.canLay0, PyData.depth, D.dep, h.1, h.2]
  | .rol ds, g => by simp [D.lay] at g
  | .obj c ns fs, g => by simp [D.lay] at g
  | .dct ks fs, g => by simp [D.lay] at g
  | .ref n, g => by simp [D.lay] at g
theorem D.pys_lay : ∀ (ds : List D), D.lays ds = true → PyData.canLayAll0 (D.pys ds) = true ∧ PyData.depthAll (D.pys ds) = D.deps ds
  | [], _ => by simp [D.pys, PyData.canLayAll0, PyData.depthAll, D.deps]
  | d :: ds, g => by
    rw [D.lays, Bool.and_eq_true] at g
    have h1 := D.py_lay d g.1
    have h2 := D.pys_lay ds g.2
    simp [D.pys, PyData.canLayAll0, PyData.depthAll, D.deps, h1.1, h1.2, h2.1, h2.2]
end
theorem D.shaped {d : D} (h : d.lay = true) (hd : d.dep ≤ 60) : SeqAt.shaped d.py = true := by
  obtain ⟨h1, h2⟩ := D.py_lay d h
  unfold SeqAt.shaped
  rw [h1, h2, Bool.true_and]
  exact decide_eq_true (by omega)
section
variable {K : PySem.W.Frag} {Z : PZ} {r : List Addr} {H : Hp}
mutual
theorem VR.dp : ∀ (d : D) {v : V}, d.lay = true → VR K Z r H d v → Dp K H v d.py
  | .non, v, _, h => by rw [h.non_inv, D.py]; exact .non
  | .bl b, v, _, h => by rw [h.bl_inv, D.py]; exact .bl b
  | .int b, v, _, h => by rw [h.int_inv, D.py]; exact .int b
  | .str b, v, _, h => by rw [h.str_inv, D.py]; exact .str b
  | .tup ds, v, g, h => by
    rw [D.lay] at g
    obtain ⟨a, xs, rfl, ht, hs⟩ := h.tup_inv
    rw [D.py]
    exact .tup ht.sq (VRs.dp ds g hs)
  | .lst ds, v, g, h => by
    rw [D.lay] at g
    obtain ⟨a, xs, rfl, ht, hs⟩ := h.lst_inv
    rw [D.py]
    exact .lst ht.sq (VRs.dp ds g hs)
  | .rol ds, v, g, h => by simp [D.lay] at g
  | .obj c ns fs, v, g, h => by simp [D.lay] at g
  | .dct ks fs, v, g, h => by simp [D.lay] at g
  | .ref n, v, g, h => by simp [D.lay] at g
theorem VRs.dp : ∀ (ds : List D) {xs : List V}, D.lays ds = true → VRs K Z r H ds xs → DpAll K H xs (D.pys ds)
  | [], xs, _, h => by rw [h.inv_nil, D.pys]; exact .nil
  | d :: ds, xs, g, h => by
    rw [D.lays, Bool.and_eq_true] at g
    obtain ⟨x, t, rfl, h1, h2⟩ := h.inv_cons
    rw [D.pys]
    exact .cons (VR.dp d g.1 h1) (VRs.dp ds g.2 h2)
end
/-- a list in a cell, or one that is only read, as a plain one -/
def seen (m : Sto) (d : D) : D := match lstOfR m d with
  | some ds => .lst ds
  | none => d
theorem SR.dpS {m : Sto} (s : SR K Z r H m) {d : D} {v : V} (h : VR K Z r H d v) (g : (seen m d).lay = true) : Dp K H v (seen m d).py := by
  unfold seen at g ⊢
  cases e : lstOfR m d with
  | none =>
    rw [e] at g
    exact VR.dp d g h
  | some ds =>
    rw [e] at g
    have g' : D.lays ds = true := by simpa [D.lay] using g
    obtain ⟨a, xs, rfl, hl, hs⟩ := s.lstR h e
    show Dp K H _ (D.py (.lst ds))
    rw [D.py]
    exact .lst hl (VRs.dp ds g' hs)
end
def D.flat : D → Bool
  | .non => true
  | .bl _ => true
  | .int _ => true
  | .str _ => true
  | _ => false
/-- flat values that == tells apart without more -/
def D.scal : D → D → Bool
  | .bl _, .int _ => false
  | .int _, .bl _ => false
  | d, e => d.flat && e.flat
def okEq (d : D) : Bool := d.lay && decide (d.dep ≤ 60)
def eqD (m : Sto) (d e : D) : Option Bool := if D.scal d e = true then some (D.eqv d e) else
  if (okEq (seen m d) && okEq (seen m e)) = true then some (D.eqv (seen m d) (seen m e)) else none
/-- c holds an equal of d -/
def memD (m : Sto) (d c : D) : Option Bool := match d, c with
  | .str x, .str y => if x.cps.size = 1 then some (decide (x.cps.getD 0 0 ∈ y.cps.toList)) else none
  | _, _ => match seqOf m c with
    | some ds => if (d.flat && ds.all D.flat) = true then some (ds.any fun y => D.eqv y d) else
      if (okEq d && okEq (.lst ds)) = true then some (ds.any fun y => D.eqv y d) else none
    | none => none
def rB (K : PySem.W.Frag) (f : D → D → Sto → Res D) : R2 := fun x y H Q => ∃ Z r m d e E, SR K Z r H m ∧ VR K Z r H d x ∧ VR K Z r H e y ∧ GE K Z r H (f d e m) Q E

def evBin (op : Operator) (d e : D) (m : Sto) : Res D := match op with
  | .Add => (match d, e with
    | .int i, .int j => .ok (.int (i + j)) m
    | .str x, .str y => if x.length + y.length ≤ 16777216 then .ok (.str (x ++ y)) m else .stuck
    | .tup a, .tup b => if a.length + b.length ≤ 16777216 then .ok (.tup (a ++ b)) m else .stuck
    | d, e => match lstOf m d, lstOf m e with
      | some a, some b => if a.length + b.length ≤ 16777216 then .ok (.lst (a ++ b)) m else .stuck
      | _, _ => .stuck)
  | .Sub => (match d, e with
    | .int i, .int j => .ok (.int (i - j)) m
    | _, _ => .stuck)
  | .Mult => (match d, e with
    | .int i, .int j => if (-(2 ^ 64) < i ∧ i < 2 ^ 64) ∨ (-(2 ^ 64) < j ∧ j < 2 ^ 64) then .ok (.int (i * j)) m else
      if i.natAbs.log2 + j.natAbs.log2 < 1000000 then .ok (.int (i * j)) m else .stuck
    | d, .int k => (match lstOf m d with
      | some a => if 0 ≤ k ∧ k < 1000000 ∧ a.length * k.toNat ≤ 16777216 then .ok (.lst (List.replicate k.toNat a).flatten) m else .stuck
      | none => .stuck)
    | _, _ => .stuck)
  | .FloorDiv => (match d, e with
    | .int i, .int j => if 0 < j ∧ j.natAbs.log2 < 9000 then .ok (.int (i / j)) m else .stuck
    | _, _ => .stuck)
  | .Mod => (match d, e with
    | .int i, .int j => if 0 < j then .ok (.int (i % j)) m else .stuck
    | _, _ => .stuck)
  | .Pow => (match d, e with
    | .int i, .int j => if 0 ≤ j ∧ j ≤ 1000000 ∧ i.natAbs < 2 ^ 64 then .ok (.int (i ^ j.toNat)) m else .stuck
    | _, _ => .stuck)
  | _ => .stuck
def bRes (m : Sto) : Option Bool → Res D
  | some b => .ok (.bl b) m
  | none => .stuck
def evCmp (op : CmpOp) (d e : D) (m : Sto) : Res D := match op with
  | .Eq => bRes m (eqD m d e)
  | .NotEq => bRes m ((eqD m d e).map not)
  | .Lt => (match d, e with
    | .int i, .int j => .ok (.bl (decide (i < j))) m
    | _, _ => .stuck)
  | .LtE => (match d, e with
    | .int i, .int j => .ok (.bl (decide (i ≤ j))) m
    | _, _ => .stuck)
  | .Gt => (match d, e with
    | .int i, .int j => .ok (.bl (decide (j < i))) m
    | _, _ => .stuck)
  | .GtE => (match d, e with
    | .int i, .int j => .ok (.bl (decide (j ≤ i))) m
    | _, _ => .stuck)
  | .In => bRes m (memD m d e)
  | .NotIn => bRes m ((memD m d e).map not)
  | .Is => (match d, e with
    | .non, .non => .ok (.bl true) m
    | .bl a, .bl b => .ok (.bl (decide (a = b))) m
    | .bl _, .non => .ok (.bl false) m
    | .int _, .non => .ok (.bl false) m
    | .str _, .non => .ok (.bl false) m
    | .tup _, .non => .ok (.bl false) m
    | .lst _, .non => .ok (.bl false) m
    | .obj _ _ _, .non => .ok (.bl false) m
    | .dct _ _, .non => .ok (.bl false) m
    | .ref _, .non => .ok (.bl false) m
    | _, _ => .stuck)
  | .IsNot => (match d, e with
    | .non, .non => .ok (.bl false) m
    | .bl a, .bl b => .ok (.bl (!decide (a = b))) m
    | .bl _, .non => .ok (.bl true) m
    | .int _, .non => .ok (.bl true) m
    | .str _, .non => .ok (.bl true) m
    | .tup _, .non => .ok (.bl true) m
    | .lst _, .non => .ok (.bl true) m
    | .obj _ _ _, .non => .ok (.bl true) m
    | .dct _ _, .non => .ok (.bl true) m
    | .ref _, .non => .ok (.bl true) m
    | _, _ => .stuck)
end ME
set_option Elab.async false
set_option linter.all false
set_option maxRecDepth 100000
set_option maxHeartbeats 4000000
namespace ME
open PySem PySem.Spec PyProof.Rows L2
theorem size16 : (16777216 : Nat) = sizeLine := sizeLine_eq.symm
section
variable {K : PySem.W.Frag} {Z : PZ} {r : List Addr} {H : Hp}
theorem VRs.nil_of {ds : List D} (h : VRs K Z r H ds []) : ds = [] := by
  have e := h.length
  cases ds with
  | nil => rfl
  | cons _ _ => simp at e
theorem bRes_some {m : Sto} {o : Option Bool} {Q : VK} {E : XK} (s : SR K Z r H m) (g : GE K Z r H (bRes m o) Q E) : ∃ b, o = some b ∧ Q (.bl b) H := by
  cases o with
  | none => exact g.elim
  | some b => exact ⟨b, rfl, GE.now g s .blI⟩
theorem VR.flatV {d : D} {v : V} (h : VR K Z r H d v) (f : d.flat = true) : flatV v = true := by
  cases d with
  | non => rw [h.non_inv]; rfl
  | bl b => rw [h.bl_inv]; rfl
  | int b => rw [h.int_inv]; rfl
  | str b => rw [h.str_inv]; rfl
  | _ => cases f
theorem VRs.flatV : ∀ {ds : List D} {xs : List V}, VRs K Z r H ds xs → ds.all D.flat = true → xs.all L2.flatV = true
  | [], xs, h, _ => by rw [h.inv_nil]; rfl
  | d :: ds, xs, h, f => by
    obtain ⟨x, t, rfl, h1, h2⟩ := h.inv_cons
    rw [List.all_cons, Bool.and_eq_true] at f ⊢
    exact ⟨h1.flatV f.1, VRs.flatV h2 f.2⟩
theorem VR.eqV {d e : D} {x y : V} (h : VR K Z r H d x) (h' : VR K Z r H e y) (f : d.flat = true) (f' : e.flat = true) : eqV x y = D.eqv d e := by
  cases d with
  | non => rw [h.non_inv]; cases e with
    | non => rw [h'.non_inv]; rfl
    | bl b => rw [h'.bl_inv]; rfl
    | int b => rw [h'.int_inv]; rfl
    | str b => rw [h'.str_inv]; rfl
    | _ => cases f'
  | bl a => rw [h.bl_inv]; cases e with
    | non => rw [h'.non_inv]; rfl
    | bl b => rw [h'.bl_inv]; rfl
    | int b => rw [h'.int_inv]; rfl
    | str b => rw [h'.str_inv]; rfl
    | _ => cases f'
  | int a => rw [h.int_inv]; cases e with
    | non => rw [h'.non_inv]; rfl
    | bl b => rw [h'.bl_inv]; rfl
    | int b => rw [h'.int_inv]; rfl
    | str b => rw [h'.str_inv]; rfl
    | _ => cases f'
  | str a => rw [h.str_inv]; cases e with
    | non => rw [h'.non_inv]; rfl
    | bl b => rw [h'.bl_inv]; rfl
    | int b => rw [h'.int_inv]; rfl
    | str b => rw [h'.str_inv]; rfl
    | _ => cases f'
  | _ => cases f
theorem VRs.inV {d : D} {x : V} (h : VR K Z r H d x) (f : d.flat = true) : ∀ {ds : List D} {xs : List V}, VRs K Z r H ds xs → ds.all D.flat = true → inV x xs = ds.any fun y => D.eqv y d
  | [], xs, h', _ => by rw [h'.inv_nil]; rfl
  | e :: ds, xs, h', g => by
    obtain ⟨y, t, rfl, h1, h2⟩ := h'.inv_cons
    rw [List.all_cons, Bool.and_eq_true] at g
    show (L2.eqV y x || L2.inV x t) = (D.eqv e d || ds.any fun y => D.eqv y d)
    rw [VR.eqV h1 h g.1 f, VRs.inV h f h2 g.2]
theorem VR.scal {d e : D} {x y : V} (h : VR K Z r H d x) (h' : VR K Z r H e y) (f : D.scal d e = true) : scal x y = true ∧ decide (x = y) = D.eqv d e := by
  cases d with
  | non => rw [h.non_inv]; cases e with
    | non => rw [h'.non_inv]; exact ⟨rfl, by simp [D.eqv]⟩
    | bl b => rw [h'.bl_inv]; exact ⟨rfl, by simp [D.eqv]⟩
    | int b => rw [h'.int_inv]; exact ⟨rfl, by simp [D.eqv]⟩
    | str b => rw [h'.str_inv]; exact ⟨rfl, by simp [D.eqv]⟩
    | _ => cases f
  | bl a => rw [h.bl_inv]; cases e with
    | non => rw [h'.non_inv]; exact ⟨rfl, by simp [D.eqv]⟩
    | bl b => rw [h'.bl_inv]; exact ⟨rfl, by rw [dec_bl, D.eqv]⟩
    | int b => cases f
    | str b => rw [h'.str_inv]; exact ⟨rfl, by simp [D.eqv]⟩
    | _ => cases f
  | int a => rw [h.int_inv]; cases e with
    | non => rw [h'.non_inv]; exact ⟨rfl, by simp [D.eqv]⟩
    | bl b => cases f
    | int b => rw [h'.int_inv]; exact ⟨rfl, by rw [dec_int, D.eqv]⟩
    | str b => rw [h'.str_inv]; exact ⟨rfl, by simp [D.eqv]⟩
    | _ => cases f
  | str a => rw [h.str_inv]; cases e with
    | non => rw [h'.non_inv]; exact ⟨rfl, by simp [D.eqv]⟩
    | bl b => rw [h'.bl_inv]; exact ⟨rfl, by simp [D.eqv]⟩
    | int b => rw [h'.int_inv]; exact ⟨rfl, by simp [D.eqv]⟩
    | str b => rw [h'.str_inv]; exact ⟨rfl, by rw [dec_str, D.eqv]⟩
    | _ => cases f
  | tup ds => cases e <;> cases f
  | lst ds => cases e <;> cases f
  | rol ds => cases e <;> cases f
  | obj c ns fs => cases e <;> cases f
  | dct ks fs => cases e <;> cases f
  | ref n => cases e <;> cases f
theorem okEq_inv {d : D} (h : okEq d = true) : d.lay = true ∧ d.dep ≤ 60 := by
  unfold okEq at h
  rw [Bool.and_eq_true] at h
  exact ⟨h.1, of_decide_eq_true h.2⟩
end
section
variable {X : Cx}
theorem bin_add : OpR X (binaryOp .Add) (rB X.K (evBin .Add)) := by
  intro pins s σ H x y v u Q I rx ry h
  obtain ⟨Z, r, m, d, e, E, hs, hd, he, g⟩ := h
  unfold evBin at g
  simp only at g
  split at g
  · obtain rfl := hd.int_inv; obtain rfl := he.int_inv
    exact op_add pins s σ H _ _ v u Q I rx ry ⟨_, _, rfl, rfl, g.now hs .intI⟩
  · split at g
    · rename_i hl
      obtain rfl := hd.str_inv; obtain rfl := he.str_inv
      exact op_add_str pins s σ H _ _ v u Q I rx ry ⟨_, _, rfl, rfl, by rw [← size16]; exact hl, g.now hs .strI⟩
    · exact g.elim
  · rename_i da db as bs
    split at g
    · rename_i hl
      obtain ⟨a, xs, rfl, ha, hx⟩ := hd.tup_inv
      obtain ⟨b, ys, rfl, hb, hy⟩ := he.tup_inv
      refine op_catA pins s σ H _ _ v u Q I rx ry ⟨a, b, xs, ys, rfl, rfl, ha.sq, hb.sq, ?_, fun z => ?_, fun _ z => ?_, fun _ _ p hp => g.tup hs (hx.append hy) hp⟩
      · rw [hx.length, hy.length, ← size16]; exact hl
      · subst z
        have ez := hx.nil_of
        subst ez
        refine g.now hs ?_
        rw [VR]; exact ⟨b, ys, rfl, hb, by simpa using hy⟩
      · subst z
        have ez := hy.nil_of
        subst ez
        refine g.now hs ?_
        rw [VR]; exact ⟨a, xs, rfl, ha, by simpa using hx⟩
    · exact g.elim
  · split at g
    · rename_i a b ea eb
      split at g
      · rename_i hl
        obtain ⟨p, xs, rfl, hp, hx⟩ := hs.lst hd ea
        obtain ⟨q, ys, rfl, hq, hy⟩ := hs.lst he eb
        refine op_cat pins s σ H _ _ v u Q I rx ry ⟨p, q, xs, ys, rfl, rfl, hp, hq, ?_, fun l hl' => g.lst hs (hx.append hy) hl'⟩
        rw [hx.length, hy.length, ← size16]; exact hl
      · exact g.elim
    · exact g.elim
theorem bin_sub : OpR X (binaryOp .Sub) (rB X.K (evBin .Sub)) := by
  intro pins s σ H x y v u Q I rx ry h
  obtain ⟨Z, r, m, d, e, E, hs, hd, he, g⟩ := h
  unfold evBin at g
  simp only at g
  split at g
  · obtain rfl := hd.int_inv; obtain rfl := he.int_inv
    exact op_sub pins s σ H _ _ v u Q I rx ry ⟨_, _, rfl, rfl, g.now hs .intI⟩
  · exact g.elim
theorem VRs.rep {K : PySem.W.Frag} {Z : PZ} {r : List Addr} {H : Hp} {ds : List D} {xs : List V} (h : VRs K Z r H ds xs) : ∀ n : Nat, VRs K Z r H (List.replicate n ds).flatten (List.replicate n xs).flatten
  | 0 => VRs.nil
  | n + 1 => by
    rw [List.replicate_succ, List.replicate_succ, List.flatten_cons, List.flatten_cons]
    exact h.append (VRs.rep h n)
theorem bin_mul : OpR X (binaryOp .Mult) (rB X.K (evBin .Mult)) := by
  intro pins s σ H x y v u Q I rx ry h
  obtain ⟨Z, r, m, d, e, E, hs, hd, he, g⟩ := h
  unfold evBin at g
  simp only at g
  split at g
  · obtain rfl := hd.int_inv; obtain rfl := he.int_inv
    split at g
    · rename_i hc
      exact op_mul pins s σ H _ _ v u Q I rx ry ⟨_, _, rfl, rfl, hc, g.now hs .intI⟩
    · split at g
      · rename_i hc
        exact op_mulW pins s σ H _ _ v u Q I rx ry ⟨_, _, rfl, rfl, hc, g.now hs .intI⟩
      · exact g.elim
  · split at g
    · rename_i a ea
      split at g
      · rename_i hc
        obtain rfl := he.int_inv
        obtain ⟨p, xs, rfl, hp, hx⟩ := hs.lst hd ea
        refine op_rep pins s σ H _ _ v u Q I rx ry ⟨p, _, xs, rfl, rfl, hp, by omega, by omega, ?_, fun l hl => g.lst hs (hx.rep _) hl⟩
        rw [hx.length, ← size16]; exact hc.2.2
      · exact g.elim
    · exact g.elim
  · exact g.elim
theorem bin_fdiv : OpR X (binaryOp .FloorDiv) (rB X.K (evBin .FloorDiv)) := by
  intro pins s σ H x y v u Q I rx ry h
  obtain ⟨Z, r, m, d, e, E, hs, hd, he, g⟩ := h
  unfold evBin at g
  simp only at g
  split at g
  · obtain rfl := hd.int_inv; obtain rfl := he.int_inv
    split at g
    · rename_i hc
      exact op_fdivW pins s σ H _ _ v u Q I rx ry ⟨_, _, rfl, rfl, hc, g.now hs .intI⟩
    · exact g.elim
  · exact g.elim
theorem bin_mod : OpR X (binaryOp .Mod) (rB X.K (evBin .Mod)) := by
  intro pins s σ H x y v u Q I rx ry h
  obtain ⟨Z, r, m, d, e, E, hs, hd, he, g⟩ := h
  unfold evBin at g
  simp only at g
  split at g
  · obtain rfl := hd.int_inv; obtain rfl := he.int_inv
    split at g
    · rename_i hc
      exact op_mod pins s σ H _ _ v u Q I rx ry ⟨_, _, rfl, rfl, hc, g.now hs .intI⟩
    · exact g.elim
  · exact g.elim
theorem bin_pow : OpR X (binaryOp .Pow) (rB X.K (evBin .Pow)) := by
  intro pins s σ H x y v u Q I rx ry h
  obtain ⟨Z, r, m, d, e, E, hs, hd, he, g⟩ := h
  unfold evBin at g
  simp only at g
  split at g
  · obtain rfl := hd.int_inv; obtain rfl := he.int_inv
    split at g
    · rename_i hc
      exact op_pow pins s σ H _ _ v u Q I rx ry ⟨_, _, rfl, rfl, hc, g.now hs .intI⟩
    · exact g.elim
  · exact g.elim
theorem bin_ok : ∀ op : Operator, OpR X (binaryOp op) (rB X.K (evBin op))
  | .Add => bin_add
  | .Sub => bin_sub
  | .Mult => bin_mul
  | .FloorDiv => bin_fdiv
  | .Mod => bin_mod
  | .Pow => bin_pow
  | .MatMult => fun _ _ _ _ _ _ _ _ _ _ _ _ ⟨_, _, _, _, _, _, _, _, _, g⟩ => g.elim
  | .Div => fun _ _ _ _ _ _ _ _ _ _ _ _ ⟨_, _, _, _, _, _, _, _, _, g⟩ => g.elim
  | .LShift => fun _ _ _ _ _ _ _ _ _ _ _ _ ⟨_, _, _, _, _, _, _, _, _, g⟩ => g.elim
  | .RShift => fun _ _ _ _ _ _ _ _ _ _ _ _ ⟨_, _, _, _, _, _, _, _, _, g⟩ => g.elim
  | .BitOr => fun _ _ _ _ _ _ _ _ _ _ _ _ ⟨_, _, _, _, _, _, _, _, _, g⟩ => g.elim
  | .BitXor => fun _ _ _ _ _ _ _ _ _ _ _ _ ⟨_, _, _, _, _, _, _, _, _, g⟩ => g.elim
  | .BitAnd => fun _ _ _ _ _ _ _ _ _ _ _ _ ⟨_, _, _, _, _, _, _, _, _, g⟩ => g.elim

/-! ### comparisons -/
theorem cmp_eq (hu : X.A.units + 65 < cLine) : OpR X (compareOp .Eq) (rB X.K (evCmp .Eq)) := by
  intro pins s σ H x y v u Q I rx ry h
  obtain ⟨Z, r, m, d, e, E, hs, hd, he, g⟩ := h
  obtain ⟨b, eb, q⟩ := bRes_some hs g
  unfold eqD at eb
  split at eb
  · rename_i hc
    obtain ⟨h1, h2⟩ := hd.scal he hc
    cases eb
    exact op_eq pins s σ H _ _ v u Q I rx ry ⟨h1, by rw [h2]; exact q⟩
  · split at eb
    · rename_i hc
      cases eb
      rw [Bool.and_eq_true] at hc
      obtain ⟨l1, l2⟩ := okEq_inv hc.1
      obtain ⟨l3, l4⟩ := okEq_inv hc.2
      exact op_eqD (by omega) pins s σ H _ _ v u Q I rx ry ⟨_, _, hs.dpS hd l1, hs.dpS he l3, D.shaped l1 l2, D.shaped l3 l4, by rw [D.py_eqv _ _ l1 l3]; exact q⟩
    · cases eb
theorem cmp_ne (hu : X.A.units + 65 < cLine) : OpR X (compareOp .NotEq) (rB X.K (evCmp .NotEq)) := by
  intro pins s σ H x y v u Q I rx ry h
  obtain ⟨Z, r, m, d, e, E, hs, hd, he, g⟩ := h
  obtain ⟨b, eb, q⟩ := bRes_some hs g
  obtain ⟨b', ec, e2⟩ := Option.map_eq_some_iff.mp eb
  clear eb
  subst e2
  unfold eqD at ec
  split at ec
  · rename_i hc
    obtain ⟨h1, h2⟩ := hd.scal he hc
    cases ec
    exact op_ne pins s σ H _ _ v u Q I rx ry ⟨h1, by rw [h2]; exact q⟩
  · split at ec
    · rename_i hc
      cases ec
      rw [Bool.and_eq_true] at hc
      obtain ⟨l1, l2⟩ := okEq_inv hc.1
      obtain ⟨l3, l4⟩ := okEq_inv hc.2
      exact op_neD (by omega) pins s σ H _ _ v u Q I rx ry ⟨_, _, hs.dpS hd l1, hs.dpS he l3, D.shaped l1 l2, D.shaped l3 l4, by rw [D.py_eqv _ _ l1 l3]; exact q⟩
    · cases ec
theorem cmp_int {op : CmpOp} {p : Int → Int → Bool} (ho : OpR X (compareOp op) (rI0 fun i j => .bl (p i j)))
    (he : ∀ d e m, evCmp op d e m = (match d, e with | .int i, .int j => .ok (.bl (p i j)) m | _, _ => .stuck)) : OpR X (compareOp op) (rB X.K (evCmp op)) := by
  intro pins s σ H x y v u Q I rx ry h
  obtain ⟨Z, r, m, d, e, E, hs, hd, he', g⟩ := h
  rw [he] at g
  split at g
  · obtain rfl := hd.int_inv; obtain rfl := he'.int_inv
    exact ho pins s σ H _ _ v u Q I rx ry ⟨_, _, rfl, rfl, g.now hs .blI⟩
  · exact g.elim
theorem any_py {d : D} (hd : d.lay = true) : ∀ {ds : List D}, D.lays ds = true → (D.pys ds).any (fun z => PyData.eqv z d.py) = ds.any fun y => D.eqv y d
  | [], _ => rfl
  | e :: ds, g => by
    rw [D.lays, Bool.and_eq_true] at g
    show ((D.pys (e :: ds)).any fun z => PyData.eqv z d.py) = (D.eqv e d || ds.any fun y => D.eqv y d)
    rw [D.pys, List.any_cons, D.py_eqv e d g.1 hd, any_py hd g.2]
theorem mem_run (hu : X.A.units + 65 < cLine) {pins : List (Addr × Obj)} {s : Shared} {σ : L2.St} {H : Hp} {x y : V} {v u : Value} {Q : VK} (I : Inv X pins σ H s) (rx : RelV x v) (ry : RelV y u) {Z : PZ} {r : List Addr} {m : Sto} {d c : D} {b : Bool}
    (hs : SR X.K Z r H m) (hd : VR X.K Z r H d x) (hc : VR X.K Z r H c y) (e : memD m d c = some b) :
    (Q (.bl b) H → wpAny (model X.prog X.w) X.A (compareOp .In v u) (EP X pins σ Q) X.xe s) ∧ (Q (.bl (!b)) H → wpAny (model X.prog X.w) X.A (compareOp .NotIn v u) (EP X pins σ Q) X.xe s) := by
  have deep : ∀ ds, seqOf m c = some ds → okEq d = true → okEq (.lst ds) = true → (ds.any fun y => D.eqv y d) = b →
      (Q (.bl b) H → wpAny (model X.prog X.w) X.A (compareOp .In v u) (EP X pins σ Q) X.xe s) ∧ (Q (.bl (!b)) H → wpAny (model X.prog X.w) X.A (compareOp .NotIn v u) (EP X pins σ Q) X.xe s) := by
    intro ds es o1 o2 eb
    obtain ⟨l1, l2⟩ := okEq_inv o1
    obtain ⟨l3, l4⟩ := okEq_inv o2
    have l3' : D.lays ds = true := by simpa [D.lay] using l3
    have sd := D.shaped l1 l2
    have sl := D.shaped l3 l4
    rw [D.py] at sl
    obtain ⟨a, xs, rfl, hq, hx⟩ := hs.seq hc es
    have hdp := VRs.dp ds l3' hx
    have ed := any_py l1 l3'
    rw [eb] at ed
    obtain ⟨bs, r2⟩ := Dp.reads I _ x v (VR.dp d l1 hd) rx
    rcases hq with hq | hq
    · obtain ⟨as, r1⟩ := Dp.reads I (.list (D.pys ds)) _ u (.lst hq hdp) ry
      exact ⟨fun q => SeqAt.in_list_reads r1 r2 (SeqAt.canLay_of_shaped sl) (SeqAt.canLay_of_shaped sd) (room_in_shaped sd hu) ⟨.bl _, H, I, rfl, by rw [ed]; exact q⟩,
        fun q => SeqAt.notIn_list_reads r1 r2 (SeqAt.canLay_of_shaped sl) (SeqAt.canLay_of_shaped sd) (room_in_shaped sd hu) ⟨.bl _, H, I, rfl, by rw [ed]; exact q⟩⟩
    · obtain ⟨as, r1⟩ := Dp.reads I (.tuple (D.pys ds)) _ u (.tup hq hdp) ry
      exact ⟨fun q => SeqAt.in_tuple_reads r1 r2 (SeqAt.canLay_of_shaped sl) (SeqAt.canLay_of_shaped sd) (room_in_shaped sd hu) ⟨.bl _, H, I, rfl, by rw [ed]; exact q⟩,
        fun q => SeqAt.notIn_tuple_reads r1 r2 (SeqAt.canLay_of_shaped sl) (SeqAt.canLay_of_shaped sd) (room_in_shaped sd hu) ⟨.bl _, H, I, rfl, by rw [ed]; exact q⟩⟩
  unfold memD at e
  split at e
  · rename_i xx yy
    split at e
    · rename_i h1
      cases e
      obtain rfl := hd.str_inv
      obtain rfl := hc.str_inv
      obtain ⟨cs⟩ := xx
      have h1' : cs.size = 1 := h1
      have ec : cs = #[cs.getD 0 0] := by
        apply Array.ext
        · simp [h1']
        · intro i hi hj
          have : i = 0 := by omega
          subst this
          simp [Array.getD, hi]
      have rx' : RelV (.str ⟨#[cs.getD 0 0]⟩) v := by rw [← ec]; exact rx
      exact ⟨fun q => op_in_sign pins s σ H _ _ v u Q I rx' ry ⟨_, _, rfl, rfl, q⟩, fun q => op_notIn_sign pins s σ H _ _ v u Q I rx' ry ⟨_, _, rfl, rfl, q⟩⟩
    · cases e
  · split at e
    · rename_i ds es
      split at e
      · rename_i hf
        cases e
        rw [Bool.and_eq_true] at hf
        obtain ⟨a, xs, rfl, hq, hx⟩ := hs.seq hc es
        have ei := VRs.inV hd hf.1 hx hf.2
        exact ⟨fun q => op_in_seq pins s σ H _ _ v u Q I rx ry ⟨a, xs, rfl, hq, hd.flatV hf.1, hx.flatV hf.2, by rw [ei]; exact q⟩,
          fun q => op_notIn_seq pins s σ H _ _ v u Q I rx ry ⟨a, xs, rfl, hq, hd.flatV hf.1, hx.flatV hf.2, by rw [ei]; exact q⟩⟩
      · split at e
        · rename_i ho
          rw [Bool.and_eq_true] at ho
          exact deep ds es ho.1 ho.2 (Option.some.inj e)
        · cases e
    · cases e
theorem cmp_in (hu : X.A.units + 65 < cLine) : OpR X (compareOp .In) (rB X.K (evCmp .In)) := by
  intro pins s σ H x y v u Q I rx ry h
  obtain ⟨Z, r, m, d, e, E, hs, hd, he, g⟩ := h
  obtain ⟨b, eb, q⟩ := bRes_some hs g
  exact (mem_run hu I rx ry hs hd he eb).1 q
theorem cmp_notin (hu : X.A.units + 65 < cLine) : OpR X (compareOp .NotIn) (rB X.K (evCmp .NotIn)) := by
  intro pins s σ H x y v u Q I rx ry h
  obtain ⟨Z, r, m, d, e, E, hs, hd, he, g⟩ := h
  obtain ⟨b, eb, q⟩ := bRes_some hs g
  obtain ⟨b', ec, e2⟩ := Option.map_eq_some_iff.mp eb
  subst e2
  exact (mem_run hu I rx ry hs hd he ec).2 q
theorem VR.notNone {K : PySem.W.Frag} {Z : PZ} {r : List Addr} {H : Hp} {d : D} {v : V} (h : VR K Z r H d v) (hd : d ≠ .non) : decide (v = .non) = false := by
  cases d with
  | non => exact absurd rfl hd
  | bl b => rw [h.bl_inv]; rfl
  | int b => rw [h.int_inv]; rfl
  | str b => rw [h.str_inv]; rfl
  | tup ds => obtain ⟨a, xs, rfl, _⟩ := h.tup_inv; rfl
  | lst ds => obtain ⟨a, xs, rfl, _⟩ := h.lst_inv; rfl
  | rol ds => obtain ⟨a, xs, rfl, _⟩ := h.rol_inv; rfl
  | obj c ns fs => rw [VR] at h; obtain ⟨a, dx, xs, rfl, _⟩ := h; rfl
  | dct ks fs => obtain ⟨a, xs, rfl, _⟩ := h.dct_inv; rfl
  | ref n => obtain ⟨a, rfl, _⟩ := h.ref_inv; rfl
theorem cmp_is : OpR X (compareOp .Is) (rB X.K (evCmp .Is)) := by
  intro pins s σ H x y v u Q I rx ry h
  obtain ⟨Z, r, m, d, e, E, hs, hd, he, g⟩ := h
  have key : d ≠ .non → e = .non → evCmp .Is d e m = .ok (.bl false) m → wpAny (model X.prog X.w) X.A (compareOp .Is v u) (EP X pins σ Q) X.xe s := by
    intro n1 n2 n3
    rw [n3] at g
    subst n2
    obtain rfl := he.non_inv
    exact op_isN pins s σ H _ _ v u Q I rx ry ⟨rfl, by rw [hd.notNone n1]; exact g.now hs .blI⟩
  by_cases en : e = .non
  · by_cases dn : d = .non
    · subst en dn
      obtain rfl := hd.non_inv
      obtain rfl := he.non_inv
      exact op_isN pins s σ H _ _ v u Q I rx ry ⟨rfl, GE.now (d := .bl true) g hs .blI⟩
    · cases d with
      | non => exact absurd rfl dn
      | rol ds => subst en; exact g.elim
      | _ => subst en; exact key dn rfl rfl
  · cases d with
    | bl a =>
      cases e with
      | bl b =>
        obtain rfl := hd.bl_inv
        obtain rfl := he.bl_inv
        exact op_isBl pins s σ H _ _ v u Q I rx ry ⟨a, b, rfl, rfl, GE.now (d := .bl (decide (a = b))) g hs .blI⟩
      | non => exact absurd rfl en
      | _ => exact g.elim
    | _ => cases e <;> first | exact absurd rfl en | exact g.elim
theorem cmp_isnot : OpR X (compareOp .IsNot) (rB X.K (evCmp .IsNot)) := by
  intro pins s σ H x y v u Q I rx ry h
  obtain ⟨Z, r, m, d, e, E, hs, hd, he, g⟩ := h
  have key : d ≠ .non → e = .non → evCmp .IsNot d e m = .ok (.bl true) m → wpAny (model X.prog X.w) X.A (compareOp .IsNot v u) (EP X pins σ Q) X.xe s := by
    intro n1 n2 n3
    rw [n3] at g
    subst n2
    obtain rfl := he.non_inv
    exact op_notN pins s σ H _ _ v u Q I rx ry ⟨rfl, by rw [hd.notNone n1]; exact g.now hs .blI⟩
  by_cases en : e = .non
  · by_cases dn : d = .non
    · subst en dn
      obtain rfl := hd.non_inv
      obtain rfl := he.non_inv
      exact op_notN pins s σ H _ _ v u Q I rx ry ⟨rfl, GE.now (d := .bl false) g hs .blI⟩
    · cases d with
      | non => exact absurd rfl dn
      | rol ds => subst en; exact g.elim
      | _ => subst en; exact key dn rfl rfl
  · cases d with
    | bl a =>
      cases e with
      | bl b =>
        obtain rfl := hd.bl_inv
        obtain rfl := he.bl_inv
        exact op_notBl pins s σ H _ _ v u Q I rx ry ⟨a, b, rfl, rfl, GE.now (d := .bl (!decide (a = b))) g hs .blI⟩
      | non => exact absurd rfl en
      | _ => exact g.elim
    | _ => cases e <;> first | exact absurd rfl en | exact g.elim
theorem cmp_ok (hu : X.A.units + 65 < cLine) : ∀ op : CmpOp, OpR X (compareOp op) (rB X.K (evCmp op))
  | .Eq => cmp_eq hu
  | .NotEq => cmp_ne hu
  | .Lt => cmp_int op_lt fun d e m => by cases d <;> cases e <;> rfl
  | .LtE => cmp_int op_le fun d e m => by cases d <;> cases e <;> rfl
  | .Gt => cmp_int op_gt fun d e m => by cases d <;> cases e <;> rfl
  | .GtE => cmp_int op_ge fun d e m => by cases d <;> cases e <;> rfl
  | .Is => cmp_is
  | .IsNot => cmp_isnot
  | .In => cmp_in hu
  | .NotIn => cmp_notin hu
end
end ME
set_option Elab.async false
set_option linter.all false
set_option maxRecDepth 100000
set_option maxHeartbeats 4000000
namespace ME
open PySem PySem.Spec PyProof.Rows L2
/-! ### items, slices, built-in functions, methods: by values -/
def cutG {α : Type} (xs : List α) (lo hi : Option Int) : List α := (xs.drop (HT.sIx xs.length 0 lo)).take (HT.sIx xs.length xs.length hi - HT.sIx xs.length 0 lo)
def asKey : D → Option Key
  | .int i => some (.inl i)
  | .str x => some (.inr x)
  | _ => none
def look (k : Key) : List Key → List D → Option D
  | j :: ks, d :: ds => if j = k then some d else look k ks ds
  | _, _ => none
def putKs (k : Key) (ks : List Key) : List Key := if (ks.any fun j => decide (j = k)) = true then ks else ks ++ [k]
def putDs (k : Key) (v : D) (ks : List Key) (ds : List D) : List D := if (ks.any fun j => decide (j = k)) = true then List.zipWith (fun j d => if j = k then v else d) ks ds else ds ++ [v]
def evIdx (d e : D) (m : Sto) : Res D := match e with
  | .int k => (match d with
    | .str x => if x.length ≤ 16777216 then (match atI x.cps.toList k with
      | some c => .ok (.str ⟨#[c]⟩) m
      | none => .stuck) else .stuck
    | d => (match seqOf m d with
      | some ds => (match atI ds k with
        | some v => .ok v m
        | none => .stuck)
      | none => .stuck))
  | _ => .stuck
/-- a dict to be read: changed or not, locked or not -/
def dctR (m : Sto) : D → Option (List Key × List D)
  | .dct ks ds => some (ks, ds)
  | .ref n => (match m[n]? with
    | some (.dct ks ds) => some (ks, ds)
    | some (.lok ks ds) => some (ks, ds)
    | _ => none)
  | _ => none
/-- d[k], d a dict -/
def evGet (d e : D) (m : Sto) : Res D := match dctR m d, asKey e with
  | some (ks, ds), some k => (match look k ks ds with
    | some v => .ok v m
    | none => .stuck)
  | _, _ => .stuck
def evSlc (d : D) (lo hi : Option Int) (m : Sto) : Res D := match d with
  | .str x => if x.length ≤ 16777216 then .ok (.str (cutS x lo hi)) m else .stuck
  | .tup ds => .ok (.tup (cutG ds lo hi)) m
  | d => (match lstOfR m d with
    | some ds => .ok (.lst (cutG ds lo hi)) m
    | none => .stuck)
def asInts : List D → Option (List Int)
  | [] => some []
  | .int i :: ds => (asInts ds).map (i :: ·)
  | _ => none
def asBls : List D → Option (List Bool)
  | [] => some []
  | .bl b :: ds => (asBls ds).map (b :: ·)
  | _ => none
def asStrs : List D → Option (List Str)
  | [] => some []
  | .str b :: ds => (asStrs ds).map (b :: ·)
  | _ => none
def maxL (i : Int) (ns : List Int) : Int := ns.foldl max i
def minL (i : Int) (ns : List Int) : Int := ns.foldl min i
inductive Bf where
  | len | abs | max2 | min2 | max1 | min1 | int | str | all | any | tuple | list | sorted | divmod | repr
  deriving DecidableEq
def Bf.name : Bf → Str
  | .len => "len" | .abs => "abs" | .max2 => "max" | .min2 => "min" | .max1 => "max" | .min1 => "min" | .int => "int" | .str => "str" | .all => "all" | .any => "any"
  | .tuple => "tuple" | .list => "list" | .sorted => "sorted" | .divmod => "divmod" | .repr => "repr"
def Bf.val : Bf → Value
  | .len => .builtin "len" | .abs => .builtin "abs" | .max2 => .builtin "max" | .min2 => .builtin "min" | .max1 => .builtin "max" | .min1 => .builtin "min" | .int => .type "int" | .str => .type "str"
  | .all => .builtin "all" | .any => .builtin "any" | .tuple => .type "tuple" | .list => .type "list" | .sorted => .builtin "sorted" | .divmod => .builtin "divmod" | .repr => .builtin "repr"
def ev1 (f : D → Sto → Res D) (ds : List D) (m : Sto) : Res D := match ds with
  | [d] => f d m
  | _ => .stuck
def ev2 (f : D → D → Sto → Res D) (ds : List D) (m : Sto) : Res D := match ds with
  | [d, e] => f d e m
  | _ => .stuck
def fLen (d : D) (m : Sto) : Res D := match d with
  | .str x => if x.length ≤ 16777216 then .ok (.int x.length) m else .stuck
  | d => (match seqOf m d with
    | some es => .ok (.int es.length) m
    | none => .stuck)
def fAbs (d : D) (m : Sto) : Res D := match d with
  | .int i => .ok (.int (if i < 0 then -i else i)) m
  | _ => .stuck
def fMax2 (d e : D) (m : Sto) : Res D := match d, e with
  | .int i, .int j => .ok (.int (if j > i then j else i)) m
  | _, _ => .stuck
def fMin2 (d e : D) (m : Sto) : Res D := match d, e with
  | .int i, .int j => .ok (.int (if j < i then j else i)) m
  | _, _ => .stuck
def fInts (d : D) (m : Sto) (f : List Int → Res D) : Res D := match (lstOfR m d).bind asInts with
  | some ns => f ns
  | none => .stuck
def fMax1 (d : D) (m : Sto) : Res D := fInts d m fun ns => match ns with
  | i :: ns => .ok (.int (maxL i ns)) m
  | _ => .stuck
def fMin1 (d : D) (m : Sto) : Res D := fInts d m fun ns => match ns with
  | i :: ns => .ok (.int (minL i ns)) m
  | _ => .stuck
def fInt (d : D) (m : Sto) : Res D := match d with
  | .int i => .ok (.int i) m
  | .bl b => .ok (.int (if b then 1 else 0)) m
  | .str x => if x.length ≤ 640 then (match PySem.intText? x with
    | some n => .ok (.int n) m
    | none => .stuck) else .stuck
  | _ => .stuck
def fStr (d : D) (m : Sto) : Res D := match d with
  | .int i => if i.natAbs.log2 < 1920 then .ok (.str (toString i)) m else .stuck
  | _ => .stuck
def fBls (d : D) (m : Sto) (f : List Bool → D) : Res D := match (lstOfR m d).bind asBls with
  | some bs => .ok (f bs) m
  | none => .stuck
def fTuple (d : D) (m : Sto) : Res D := match d with
  | .tup es => .ok (.tup es) m
  | d => (match lstOfR m d with
    | some es => .ok (.tup es) m
    | none => .stuck)
/-- the key as a value -/
def keyD : Key → D
  | .inl i => .int i
  | .inr x => .str x
/-- a dict, changed or not -/
def dctOf (m : Sto) : D → Option (List Key × List D)
  | .dct ks ds => some (ks, ds)
  | .ref n => (match m[n]? with
    | some (.dct ks ds) => some (ks, ds)
    | _ => none)
  | _ => none
def fList (d : D) (m : Sto) : Res D := match seqOf m d with
  | some es => .ok (.lst es) m
  | none => (match dctOf m d with
    | some (ks, _) => .ok (.lst (ks.map keyD)) m
    | none => .stuck)
def fSorted (d : D) (m : Sto) : Res D := fInts d m fun ns => .ok (.lst ((ns.mergeSort (fun a b => decide (a ≤ b))).map D.int)) m
def fDivmod (d e : D) (m : Sto) : Res D := match d, e with
  | .int i, .int j => if 0 < j ∧ j.natAbs.log2 < 9000 then .ok (.tup [.int (i / j), .int (i % j)]) m else .stuck
  | _, _ => .stuck
def fAll (d : D) (m : Sto) : Res D := fBls d m fun bs => .bl (bs.all id)
def fAny (d : D) (m : Sto) : Res D := fBls d m fun bs => .bl (bs.any id)
/-- of a list, a tuple -/
def fRepr (d : D) (m : Sto) : Res D := match d with
  | .non => .ok (.str "None") m
  | .bl b => .ok (.str (if b then "True" else "False")) m
  | .int i => if i.natAbs.log2 < 1920 then .ok (.str (toString i)) m else .stuck
  | .str x => if (reprText x).length ≤ 16777216 then .ok (.str (reprText x)) m else .stuck
  | d => (match seqOf m d with
    | some _ => if (okEq (seen m d) && (seen m d).py.showable && !(seen m d).py.hasDict && decide ((seen m d).py.shown.length ≤ 16777216)) = true then .ok (.str (seen m d).py.shown) m else .stuck
    | none => .stuck)
def evBf : Bf → List D → Sto → Res D
  | .len => ev1 fLen
  | .abs => ev1 fAbs
  | .max2 => ev2 fMax2
  | .min2 => ev2 fMin2
  | .max1 => ev1 fMax1
  | .min1 => ev1 fMin1
  | .int => ev1 fInt
  | .str => ev1 fStr
  | .all => ev1 fAll
  | .any => ev1 fAny
  | .tuple => ev1 fTuple
  | .list => ev1 fList
  | .sorted => ev1 fSorted
  | .divmod => ev2 fDivmod
  | .repr => ev1 fRepr
def rC (K : PySem.W.Frag) (f : List D → Sto → Res D) : List V → Hp → VK → Prop := fun xs H Q => ∃ Z r m ds E, SR K Z r H m ∧ VRs K Z r H ds xs ∧ GE K Z r H (f ds m) Q E
section
variable {K : PySem.W.Frag} {Z : PZ} {r : List Addr} {H : Hp}
theorem VRs.asInts : ∀ {ds : List D} {xs : List V} {ns : List Int}, VRs K Z r H ds xs → ME.asInts ds = some ns → xs = ns.map V.int ∧ ds = ns.map D.int
  | [], xs, ns, h, e => by cases e; exact ⟨h.inv_nil, rfl⟩
  | d :: ds, xs, ns, h, e => by
    obtain ⟨x, t, rfl, h1, h2⟩ := h.inv_cons
    cases d with
    | int i =>
      rw [ME.asInts] at e
      obtain ⟨ms, e1, rfl⟩ := Option.map_eq_some_iff.mp e
      obtain ⟨q1, q2⟩ := VRs.asInts h2 e1
      rw [h1.int_inv, q1, q2]
      exact ⟨rfl, rfl⟩
    | _ => cases e
theorem VRs.asBls : ∀ {ds : List D} {xs : List V} {ns : List Bool}, VRs K Z r H ds xs → ME.asBls ds = some ns → xs = ns.map V.bl ∧ ds = ns.map D.bl
  | [], xs, ns, h, e => by cases e; exact ⟨h.inv_nil, rfl⟩
  | d :: ds, xs, ns, h, e => by
    obtain ⟨x, t, rfl, h1, h2⟩ := h.inv_cons
    cases d with
    | bl i =>
      rw [ME.asBls] at e
      obtain ⟨ms, e1, rfl⟩ := Option.map_eq_some_iff.mp e
      obtain ⟨q1, q2⟩ := VRs.asBls h2 e1
      rw [h1.bl_inv, q1, q2]
      exact ⟨rfl, rfl⟩
    | _ => cases e
theorem VRs.asStrs : ∀ {ds : List D} {xs : List V} {ns : List Str}, VRs K Z r H ds xs → ME.asStrs ds = some ns → xs = ns.map V.str ∧ ds = ns.map D.str
  | [], xs, ns, h, e => by cases e; exact ⟨h.inv_nil, rfl⟩
  | d :: ds, xs, ns, h, e => by
    obtain ⟨x, t, rfl, h1, h2⟩ := h.inv_cons
    cases d with
    | str i =>
      rw [ME.asStrs] at e
      obtain ⟨ms, e1, rfl⟩ := Option.map_eq_some_iff.mp e
      obtain ⟨q1, q2⟩ := VRs.asStrs h2 e1
      rw [h1.str_inv, q1, q2]
      exact ⟨rfl, rfl⟩
    | _ => cases e
theorem VRs.strs : ∀ (ns : List Str), VRs K Z r H (ns.map D.str) (ns.map V.str)
  | [] => VRs.nil
  | n :: ns => .cons .strI (VRs.strs ns)
theorem VRs.one {d : D} {xs : List V} (h : VRs K Z r H [d] xs) : ∃ x, xs = [x] ∧ VR K Z r H d x := by
  obtain ⟨x, t, rfl, h1, h2⟩ := h.inv_cons
  rw [h2.inv_nil]
  exact ⟨x, rfl, h1⟩
theorem VRs.two {d e : D} {xs : List V} (h : VRs K Z r H [d, e] xs) : ∃ x y, xs = [x, y] ∧ VR K Z r H d x ∧ VR K Z r H e y := by
  obtain ⟨x, t, rfl, h1, h2⟩ := h.inv_cons
  obtain ⟨y, rfl, h3⟩ := h2.one
  exact ⟨x, y, rfl, h1, h3⟩
theorem VRs.cut {ds : List D} {xs : List V} (h : VRs K Z r H ds xs) (lo hi : Option Int) : VRs K Z r H (cutG ds lo hi) (cutV xs lo hi) := by
  unfold cutG cutV
  rw [h.length]
  exact (h.drop _).take _
theorem VRs.at_ {ds : List D} {xs : List V} {k : Int} {d : D} (h : VRs K Z r H ds xs) (e : atI ds k = some d) : ∃ x, atI xs k = some x ∧ VR K Z r H d x := by
  unfold atI at e ⊢
  rw [h.length]
  cases q : ixN ds.length k with
  | none => rw [q] at e; cases e
  | some j =>
    rw [q] at e
    exact h.get e
theorem maxL_spec : ∀ (ns : List Int) (i : Int), (maxL i ns = i ∨ maxL i ns ∈ ns) ∧ i ≤ maxL i ns ∧ ∀ y ∈ ns, y ≤ maxL i ns
  | [], i => ⟨.inl rfl, Int.le_refl _, fun y h => by cases h⟩
  | n :: ns, i => by
    obtain ⟨h1, h2, h3⟩ := maxL_spec ns (max i n)
    have e : maxL i (n :: ns) = maxL (max i n) ns := rfl
    rw [e]
    refine ⟨?_, by omega, fun y hy => ?_⟩
    · rcases h1 with h1 | h1
      · by_cases hc : i ≤ n
        · right; rw [h1, show max i n = n by omega]; exact List.mem_cons_self
        · left; rw [h1]; omega
      · right; exact List.mem_cons_of_mem _ h1
    · rcases List.mem_cons.mp hy with rfl | hy
      · omega
      · exact h3 y hy
theorem minL_spec : ∀ (ns : List Int) (i : Int), (minL i ns = i ∨ minL i ns ∈ ns) ∧ minL i ns ≤ i ∧ ∀ y ∈ ns, minL i ns ≤ y
  | [], i => ⟨.inl rfl, Int.le_refl _, fun y h => by cases h⟩
  | n :: ns, i => by
    obtain ⟨h1, h2, h3⟩ := minL_spec ns (min i n)
    have e : minL i (n :: ns) = minL (min i n) ns := rfl
    rw [e]
    refine ⟨?_, by omega, fun y hy => ?_⟩
    · rcases h1 with h1 | h1
      · by_cases hc : n ≤ i
        · right; rw [h1, show min i n = n by omega]; exact List.mem_cons_self
        · left; rw [h1]; omega
      · right; exact List.mem_cons_of_mem _ h1
    · rcases List.mem_cons.mp hy with rfl | hy
      · omega
      · exact h3 y hy
theorem perm_sorted_eq : ∀ {l m : List Int}, l.Perm m → l.Pairwise (· ≤ ·) → m.Pairwise (· ≤ ·) → l = m := fun h1 h2 h3 =>
  List.Perm.eq_of_pairwise (fun a b _ _ x y => by omega) h2 h3 h1
theorem valV_look {k : Key} : ∀ {ks : List Key} {ds : List D} {xs : List V}, ks.length = xs.length → VRs K Z r H ds xs → match look k ks ds with
    | some d => ∃ x, valV (ks.zip xs) k = some x ∧ VR K Z r H d x
    | none => valV (ks.zip xs) k = none
  | [], ds, xs, hl, h => by
    cases ds <;> exact valV_nil
  | j :: ks, [], xs, hl, h => by
    rw [h.inv_nil] at hl; simp at hl
  | j :: ks, d :: ds, xs, hl, h => by
    obtain ⟨x, t, rfl, h1, h2⟩ := h.inv_cons
    rw [look]
    by_cases e : j = k
    · rw [if_pos e]
      exact ⟨x, valV_pos e, h1⟩
    · rw [if_neg e]
      have q := valV_look (k := k) (ks := ks) (by simpa using hl) h2
      rw [List.zip_cons_cons, valV_neg e]
      exact q
end
end ME
set_option Elab.async false
set_option linter.all false
set_option maxRecDepth 100000
set_option maxHeartbeats 4000000
namespace ME
open PySem PySem.Spec PyProof.Rows L2
def rS (K : PySem.W.Frag) (f : D → Option Int → Option Int → Sto → Res D) : V → Option Int → Option Int → Hp → VK → Prop := fun x lo hi H Q => ∃ Z r m d E, SR K Z r H m ∧ VR K Z r H d x ∧ GE K Z r H (f d lo hi m) Q E
theorem cut_whole {α : Type} {xs : List α} {lo hi : Option Int} (h : HT.sIx xs.length 0 lo = 0 ∧ HT.sIx xs.length xs.length hi = xs.length) : cutG xs lo hi = xs := by
  unfold cutG
  rw [h.1, h.2]
  simp
section
variable {X : Cx}
theorem ix_ok : IxR X (rB X.K evIdx) := by
  intro value slice pins s σ H x y v u Q I rx ry h hsub
  obtain ⟨Z, r, m, d, e, E, hs, hd, he, g⟩ := h
  unfold evIdx at g
  split at g
  · rename_i k
    obtain rfl := he.int_inv
    split at g
    · split at g
      · rename_i hl
        split at g
        · rename_i c hc
          obtain rfl := hd.str_inv
          exact ix_str value slice pins s σ H _ _ v u Q I rx ry ⟨_, _, _, rfl, rfl, by rw [← size16]; exact hl, hc, g.now hs .strI⟩ hsub
        · exact g.elim
      · exact g.elim
    · split at g
      · rename_i ds eds
        split at g
        · rename_i w hw
          obtain ⟨a, xs, rfl, hq, hx⟩ := hs.seq hd eds
          obtain ⟨z, hz, hv⟩ := hx.at_ hw
          rcases hq with hq | hq
          · exact ix_list value slice pins s σ H _ _ v u Q I rx ry ⟨a, xs, _, z, rfl, rfl, hq, hz, g.now hs hv⟩ hsub
          · exact ix_tup value slice pins s σ H _ _ v u Q I rx ry ⟨a, xs, _, z, rfl, rfl, hq, hz, g.now hs hv⟩ hsub
        · exact g.elim
      · exact g.elim
  · exact g.elim
theorem slc_ok : SlR X (rS X.K evSlc) := by
  intro pins s σ H x v vl vu lo hi sl Q I rx hsl pl pu h
  obtain ⟨Z, r, m, d, E, hs, hd, g⟩ := h
  unfold evSlc at g
  split at g
  · split at g
    · rename_i hl
      obtain rfl := hd.str_inv
      exact sl_str pins s σ H _ v vl vu lo hi sl Q I rx hsl pl pu ⟨_, rfl, by rw [← size16]; exact hl, g.now hs .strI⟩
    · exact g.elim
  · obtain ⟨a, xs, rfl, ha, hx⟩ := hd.tup_inv
    refine sl_tupA pins s σ H _ v vl vu lo hi sl Q I rx hsl pl pu ⟨a, xs, rfl, ha.sq, fun hw => ?_, fun _ p hp => g.tup hs (hx.cut lo hi) hp⟩
    refine g.now hs ?_
    rw [VR]
    refine ⟨a, xs, rfl, ha, ?_⟩
    rw [hx.length] at hw
    rw [cut_whole hw]
    exact hx
  · split at g
    · rename_i ds eds
      obtain ⟨a, xs, rfl, hq, hx⟩ := hs.lstR hd eds
      exact sl_list pins s σ H _ v vl vu lo hi sl Q I rx hsl pl pu ⟨a, xs, rfl, hq, fun p hp => g.lst hs (hx.cut lo hi) hp⟩
    · exact g.elim
theorem ev1_run {K : PySem.W.Frag} {Z : PZ} {r : List Addr} {H : Hp} {Q : VK} {E : XK} {f : D → Sto → Res D} {ds : List D} {m : Sto} {xs : List V} (h : VRs K Z r H ds xs) (g : GE K Z r H (ev1 f ds m) Q E) :
    ∃ d x, xs = [x] ∧ VR K Z r H d x ∧ GE K Z r H (f d m) Q E := by
  unfold ev1 at g
  split at g
  · obtain ⟨x, rfl, hx⟩ := h.one
    exact ⟨_, x, rfl, hx, g⟩
  · exact g.elim
theorem ev2_run {K : PySem.W.Frag} {Z : PZ} {r : List Addr} {H : Hp} {Q : VK} {E : XK} {f : D → D → Sto → Res D} {ds : List D} {m : Sto} {xs : List V} (h : VRs K Z r H ds xs) (g : GE K Z r H (ev2 f ds m) Q E) :
    ∃ d e x y, xs = [x, y] ∧ VR K Z r H d x ∧ VR K Z r H e y ∧ GE K Z r H (f d e m) Q E := by
  unfold ev2 at g
  split at g
  · obtain ⟨x, y, rfl, hx, hy⟩ := h.two
    exact ⟨_, _, x, y, rfl, hx, hy, g⟩
  · exact g.elim
theorem fInts_run {K : PySem.W.Frag} {Z : PZ} {r : List Addr} {H : Hp} {Q : VK} {E : XK} {f : List Int → Res D} {d : D} {m : Sto} {x : V} (hs : SR K Z r H m) (h : VR K Z r H d x) (g : GE K Z r H (fInts d m f) Q E) :
    ∃ a ns, x = .ref a ∧ SqL K H a (ns.map V.int) ∧ GE K Z r H (f ns) Q E := by
  unfold fInts at g
  split at g
  · rename_i ns e
    obtain ⟨ds, e1, e2⟩ := Option.bind_eq_some_iff.mp e
    obtain ⟨a, xs, rfl, hq, hx⟩ := hs.lstR h e1
    obtain ⟨rfl, _⟩ := hx.asInts e2
    exact ⟨a, ns, rfl, hq, g⟩
  · exact g.elim
theorem fBls_run {K : PySem.W.Frag} {Z : PZ} {r : List Addr} {H : Hp} {Q : VK} {E : XK} {f : List Bool → D} {d : D} {m : Sto} {x : V} (hs : SR K Z r H m) (h : VR K Z r H d x) (g : GE K Z r H (fBls d m f) Q E) :
    ∃ a bs, x = .ref a ∧ SqL K H a (bs.map V.bl) ∧ GE K Z r H (.ok (f bs) m) Q E := by
  unfold fBls at g
  split at g
  · rename_i ns e
    obtain ⟨ds, e1, e2⟩ := Option.bind_eq_some_iff.mp e
    obtain ⟨a, xs, rfl, hq, hx⟩ := hs.lstR h e1
    obtain ⟨rfl, _⟩ := hx.asBls e2
    exact ⟨a, ns, rfl, hq, g⟩
  · exact g.elim
theorem bf_len : CallR X (.builtin "len") (rC X.K (evBf .len)) := by
  intro pins s σ H xs us Q I rx ⟨Z, r, m, ds, E, hs, hd, g⟩
  obtain ⟨d, x, rfl, hx, g⟩ := ev1_run hd g
  unfold fLen at g
  split at g
  · split at g
    · rename_i hl
      obtain rfl := hx.str_inv
      exact call_len_str pins s σ H _ us Q I rx ⟨_, rfl, by rw [← size16]; exact hl, g.now hs .intI⟩
    · exact g.elim
  · split at g
    · rename_i es ees
      obtain ⟨a, ys, rfl, hq, hy⟩ := hs.seq hx ees
      refine call_len_seq pins s σ H _ us Q I rx ⟨a, ys, rfl, hq, ?_⟩
      rw [hy.length]
      exact g.now hs .intI
    · exact g.elim
theorem bf_abs : CallR X (.builtin "abs") (rC X.K (evBf .abs)) := by
  intro pins s σ H xs us Q I rx ⟨Z, r, m, ds, E, hs, hd, g⟩
  obtain ⟨d, x, rfl, hx, g⟩ := ev1_run hd g
  unfold fAbs at g
  split at g
  · obtain rfl := hx.int_inv
    exact call_abs pins s σ H _ us Q I rx ⟨_, rfl, g.now hs .intI⟩
  · exact g.elim
theorem bf_max2 (hc : X.calm = true) : CallR X (.builtin "max") (rC X.K (evBf .max2)) := by
  intro pins s σ H xs us Q I rx ⟨Z, r, m, ds, E, hs, hd, g⟩
  obtain ⟨d, e, x, y, rfl, hx, hy, g⟩ := ev2_run hd g
  unfold fMax2 at g
  split at g
  · obtain rfl := hx.int_inv
    obtain rfl := hy.int_inv
    exact call_max2 hc pins s σ H _ us Q I rx ⟨_, _, rfl, g.now hs .intI⟩
  · exact g.elim
theorem bf_min2 (hc : X.calm = true) : CallR X (.builtin "min") (rC X.K (evBf .min2)) := by
  intro pins s σ H xs us Q I rx ⟨Z, r, m, ds, E, hs, hd, g⟩
  obtain ⟨d, e, x, y, rfl, hx, hy, g⟩ := ev2_run hd g
  unfold fMin2 at g
  split at g
  · obtain rfl := hx.int_inv
    obtain rfl := hy.int_inv
    exact call_min2 hc pins s σ H _ us Q I rx ⟨_, _, rfl, g.now hs .intI⟩
  · exact g.elim
theorem bf_max1 (hc : X.calm = true) : CallR X (.builtin "max") (rC X.K (evBf .max1)) := by
  intro pins s σ H xs us Q I rx ⟨Z, r, m, ds, E, hs, hd, g⟩
  obtain ⟨d, x, rfl, hx, g⟩ := ev1_run hd g
  obtain ⟨a, ns, rfl, hq, g⟩ := fInts_run hs hx g
  cases ns with
  | nil => exact g.elim
  | cons i ns =>
    refine cr_max hc pins s σ H _ us Q I rx ⟨a, _, rfl, hq, by simp, fun k hk hle => ?_⟩
    obtain ⟨h1, h2, h3⟩ := maxL_spec ns i
    have e : k = maxL i ns := by
      have p1 : maxL i ns ≤ k := hle _ (by rcases h1 with h1 | h1; rw [h1]; exact List.mem_cons_self; exact List.mem_cons_of_mem _ h1)
      have p2 : k ≤ maxL i ns := by
        rcases List.mem_cons.mp hk with rfl | hk
        · exact h2
        · exact h3 k hk
      omega
    rw [e]
    exact g.now hs .intI
theorem bf_min1 (hc : X.calm = true) : CallR X (.builtin "min") (rC X.K (evBf .min1)) := by
  intro pins s σ H xs us Q I rx ⟨Z, r, m, ds, E, hs, hd, g⟩
  obtain ⟨d, x, rfl, hx, g⟩ := ev1_run hd g
  obtain ⟨a, ns, rfl, hq, g⟩ := fInts_run hs hx g
  cases ns with
  | nil => exact g.elim
  | cons i ns =>
    refine cr_min hc pins s σ H _ us Q I rx ⟨a, _, rfl, hq, by simp, fun k hk hle => ?_⟩
    obtain ⟨h1, h2, h3⟩ := minL_spec ns i
    have e : k = minL i ns := by
      have p1 : k ≤ minL i ns := hle _ (by rcases h1 with h1 | h1; rw [h1]; exact List.mem_cons_self; exact List.mem_cons_of_mem _ h1)
      have p2 : minL i ns ≤ k := by
        rcases List.mem_cons.mp hk with rfl | hk
        · exact h2
        · exact h3 k hk
      omega
    rw [e]
    exact g.now hs .intI
theorem bf_int : CallR X (.type "int") (rC X.K (evBf .int)) := by
  intro pins s σ H xs us Q I rx ⟨Z, r, m, ds, E, hs, hd, g⟩
  obtain ⟨d, x, rfl, hx, g⟩ := ev1_run hd g
  unfold fInt at g
  split at g
  · obtain rfl := hx.int_inv
    exact call_int1 pins s σ H _ us Q I rx (.inl ⟨_, rfl, g.now hs .intI⟩)
  · obtain rfl := hx.bl_inv
    exact call_int1 pins s σ H _ us Q I rx (.inr ⟨_, rfl, g.now hs .intI⟩)
  · split at g
    · rename_i hl
      split at g
      · rename_i n hn
        obtain rfl := hx.str_inv
        exact call_int_str pins s σ H _ us Q I rx ⟨_, n, rfl, hn, hl, g.now hs .intI⟩
      · exact g.elim
    · exact g.elim
  · exact g.elim
theorem bf_str : CallR X (.type "str") (rC X.K (evBf .str)) := by
  intro pins s σ H xs us Q I rx ⟨Z, r, m, ds, E, hs, hd, g⟩
  obtain ⟨d, x, rfl, hx, g⟩ := ev1_run hd g
  unfold fStr at g
  split at g
  · split at g
    · rename_i hl
      obtain rfl := hx.int_inv
      exact call_str_int pins s σ H _ us Q I rx ⟨_, rfl, hl, g.now hs .strI⟩
    · exact g.elim
  · exact g.elim
theorem bf_all (hc : X.calm = true) : CallR X (.builtin "all") (rC X.K (evBf .all)) := by
  intro pins s σ H xs us Q I rx ⟨Z, r, m, ds, E, hs, hd, g⟩
  obtain ⟨d, x, rfl, hx, g⟩ := ev1_run hd g
  obtain ⟨a, bs, rfl, hq, g⟩ := fBls_run hs hx g
  exact cr_all hc pins s σ H _ us Q I rx ⟨a, bs, rfl, hq, g.now hs .blI⟩
theorem bf_any (hc : X.calm = true) : CallR X (.builtin "any") (rC X.K (evBf .any)) := by
  intro pins s σ H xs us Q I rx ⟨Z, r, m, ds, E, hs, hd, g⟩
  obtain ⟨d, x, rfl, hx, g⟩ := ev1_run hd g
  obtain ⟨a, bs, rfl, hq, g⟩ := fBls_run hs hx g
  exact cr_any hc pins s σ H _ us Q I rx ⟨a, bs, rfl, hq, g.now hs .blI⟩
theorem bf_tuple : CallR X (.type "tuple") (rC X.K (evBf .tuple)) := by
  intro pins s σ H xs us Q I rx ⟨Z, r, m, ds, E, hs, hd, g⟩
  obtain ⟨d, x, rfl, hx, g⟩ := ev1_run hd g
  unfold fTuple at g
  split at g
  · obtain ⟨a, ys, rfl, ha, hy⟩ := hx.tup_inv
    refine call_tuple_of pins s σ H _ us Q I rx ⟨a, ys, rfl, .inr ⟨ha.sq, g.now hs hx⟩⟩
  · split at g
    · rename_i es ees
      obtain ⟨a, ys, rfl, hq, hy⟩ := hs.lstR hx ees
      exact call_tuple_of pins s σ H _ us Q I rx ⟨a, ys, rfl, .inl ⟨hq, fun p hp => g.tup hs hy hp⟩⟩
    · exact g.elim
theorem VRs.keys {K : PySem.W.Frag} {Z : PZ} {r : List Addr} {H : Hp} : ∀ (ks : List Key) {xs : List V}, ks.length = xs.length → VRs K Z r H (ks.map keyD) ((ks.zip xs).map fun kv => kV kv.1)
  | [], xs, _ => .nil
  | k :: ks, [], h => by simp at h
  | k :: ks, x :: xs, h => by
    rw [List.map_cons, List.zip_cons_cons, List.map_cons]
    refine .cons ?_ (VRs.keys ks (by simpa using h))
    cases k with
    | inl i => exact .intI
    | inr x => exact .strI
theorem SR.dct {K : PySem.W.Frag} {Z : PZ} {r : List Addr} {H : Hp} {m : Sto} (s : SR K Z r H m) {d : D} {v : V} {ks : List Key} {es : List D} (h : VR K Z r H d v) (e : dctOf m d = some (ks, es)) : ∃ a xs, v = .ref a ∧ H a = some (.dK (ks.zip xs)) ∧ ks.length = xs.length ∧ VRs K Z r H es xs := by
  unfold dctOf at e
  split at e
  · cases e
    obtain ⟨a, xs, ev, h1, _, h2, h3⟩ := h.dct_inv
    exact ⟨a, xs, ev, h1, h2, h3⟩
  · split at e
    · rename_i ks' es' em
      cases e
      obtain ⟨a, rfl, ha⟩ := h.ref_inv
      obtain ⟨xs, h1, h2, h3⟩ := s.cells _ _ a em ha
      exact ⟨a, xs, rfl, h1, h2, h3⟩
    · cases e
  · cases e
theorem SR.dctR {K : PySem.W.Frag} {Z : PZ} {r : List Addr} {H : Hp} {m : Sto} (s : SR K Z r H m) {d : D} {v : V} {ks : List Key} {es : List D} (h : VR K Z r H d v) (e : dctR m d = some (ks, es)) : ∃ a xs, v = .ref a ∧ Rd H a (.dK (ks.zip xs)) ∧ ks.length = xs.length ∧ VRs K Z r H es xs := by
  unfold ME.dctR at e
  split at e
  · cases e
    obtain ⟨a, xs, ev, h1, _, h2, h3⟩ := h.dct_inv
    exact ⟨a, xs, ev, .inl h1, h2, h3⟩
  · obtain ⟨a, rfl, ha⟩ := h.ref_inv
    split at e
    · rename_i ks' es' em
      cases e
      obtain ⟨xs, h1, h2, h3⟩ := s.cells _ _ a em ha
      exact ⟨a, xs, rfl, .inl h1, h2, h3⟩
    · rename_i ks' es' em
      cases e
      obtain ⟨o, xs, h1, h2, h3⟩ := s.cells _ _ a em ha
      exact ⟨a, xs, rfl, .inr ⟨o, h1⟩, h2, h3⟩
    · cases e
  · cases e
theorem bf_list (hc : X.calm = true) : CallR X (.type "list") (rC X.K (evBf .list)) := by
  intro pins s σ H xs us Q I rx ⟨Z, r, m, ds, E, hs, hd, g⟩
  obtain ⟨d, x, rfl, hx, g⟩ := ev1_run hd g
  unfold fList at g
  split at g
  · rename_i es ees
    obtain ⟨a, ys, rfl, hq, hy⟩ := hs.seq hx ees
    exact call_list_of pins s σ H _ us Q I rx ⟨a, ys, rfl, hq, fun p hp => g.lst hs hy hp⟩
  · split at g
    · rename_i ks es ed
      obtain ⟨a, ys, rfl, h1, h2, h3⟩ := hs.dct hx ed
      exact call_list_dK hc pins s σ H _ us Q I rx ⟨a, _, rfl, h1, fun p hp => g.lst hs (VRs.keys ks h2) hp⟩
    · exact g.elim
theorem bf_sorted : CallR X (.builtin "sorted") (rC X.K (evBf .sorted)) := by
  intro pins s σ H xs us Q I rx ⟨Z, r, m, ds, E, hs, hd, g⟩
  obtain ⟨d, x, rfl, hx, g⟩ := ev1_run hd g
  obtain ⟨a, ns, rfl, hq, g⟩ := fInts_run hs hx g
  refine cr_sortedI pins s σ H _ us Q I rx ⟨a, ns, rfl, hq, fun ns' p hp1 hp2 hnew => ?_⟩
  have e : ns' = ns.mergeSort (fun a b => decide (a ≤ b)) := by
    refine perm_sorted_eq (hp1.trans (List.mergeSort_perm ns _).symm) hp2 ?_
    have q := List.pairwise_mergeSort (le := fun (a b : Int) => decide (a ≤ b)) (fun a b c h1 h2 => by simp at *; omega) (fun a b => by simp; omega) ns
    exact q.imp fun h => by simpa using h
  subst e
  exact g.lst hs (.ints _) hnew
theorem bf_divmod : CallR X (.builtin "divmod") (rC X.K (evBf .divmod)) := by
  intro pins s σ H xs us Q I rx ⟨Z, r, m, ds, E, hs, hd, g⟩
  obtain ⟨d, e, x, y, rfl, hx, hy, g⟩ := ev2_run hd g
  unfold fDivmod at g
  split at g
  · split at g
    · rename_i hc
      obtain rfl := hx.int_inv
      obtain rfl := hy.int_inv
      exact call_divmodW pins s σ H _ us Q I rx ⟨_, _, rfl, ⟨hc.1, PyProof.noPylong_of_log2 hc.2⟩, fun p hp => g.tup hs (.cons .intI (.cons .intI .nil)) hp⟩
    · exact g.elim
  · exact g.elim
theorem bf_repr (hu : X.A.units + 65 < cLine) (hg : X.A.guards = some []) : CallR X (.builtin "repr") (rC X.K (evBf .repr)) := by
  intro pins s σ H xs us Q I rxs ⟨Z, r, m, ds, E, hs, hds, g⟩
  obtain ⟨d, x, rfl, hx, g⟩ := ev1_run hds g
  unfold fRepr at g
  split at g
  · obtain rfl := hx.non_inv
    obtain ⟨u, rfl, ru⟩ := Vals.one rxs
    cases (show u = Value.none from ru)
    exact PySem.P.repr_of_none ⟨V.str _, H, I.tok _, ⟨_, rfl⟩, g.now hs .strI⟩
  · obtain rfl := hx.bl_inv
    obtain ⟨u, rfl, ru⟩ := Vals.one rxs
    cases (show u = Value.bool _ from ru)
    exact PySem.P.repr_of_bool ⟨V.str _, H, I.tok _, ⟨_, rfl⟩, g.now hs .strI⟩
  · split at g
    · rename_i hz
      obtain rfl := hx.int_inv
      obtain ⟨u, rfl, t, rfl⟩ := Vals.one rxs
      exact PySem.P.repr_of_int hz ⟨V.str _, H, I.tok _, ⟨_, rfl⟩, g.now hs .strI⟩
    · exact g.elim
  · split at g
    · rename_i hz
      obtain rfl := hx.str_inv
      obtain ⟨u, rfl, t, rfl⟩ := Vals.one rxs
      exact PySem.P.repr_of_str ⟨V.str _, H, I.tok _, ⟨_, rfl⟩, g.now hs .strI⟩ (by rw [← size16]; exact hz)
    · exact g.elim
  · split at g
    · rename_i es ee
      split at g
      · rename_i hk
        rw [Bool.and_eq_true, Bool.and_eq_true, Bool.and_eq_true, Bool.not_eq_true'] at hk
        obtain ⟨⟨⟨h1, h2⟩, h3⟩, h4⟩ := hk
        obtain ⟨h5, h6⟩ := okEq_inv h1
        obtain ⟨a, ys, rfl, _, _⟩ := hs.seq hx ee
        obtain ⟨u, rfl, ru⟩ := Vals.one rxs
        cases (show u = Value.ref a from ru)
        obtain ⟨as, hr⟩ := Dp.reads I _ _ _ (hs.dpS hx h5) rfl
        have hdep := (D.py_lay _ h5).2
        refine repr_of_reads' hr h2 (fun z => by rw [h3] at z; cases z) hg (by rw [hdep]; omega) (fun _ _ e => e) (fun h' u tk hk => ?_) (by rw [← size16]; exact of_decide_eq_true h4)
        exact ⟨.str _, H, I.kept hk, ⟨u, rfl⟩, g.now hs .strI⟩
      · exact g.elim
    · exact g.elim
theorem bf_ok (hc : X.calm = true) (hu : X.A.units + 65 < cLine) (hg : X.A.guards = some []) : ∀ b : Bf, CallR X b.val (rC X.K (evBf b))
  | .len => bf_len
  | .abs => bf_abs
  | .max2 => bf_max2 hc
  | .min2 => bf_min2 hc
  | .max1 => bf_max1 hc
  | .min1 => bf_min1 hc
  | .int => bf_int
  | .str => bf_str
  | .all => bf_all hc
  | .any => bf_any hc
  | .tuple => bf_tuple
  | .list => bf_list hc
  | .sorted => bf_sorted
  | .divmod => bf_divmod
  | .repr => bf_repr hu hg
end
end ME
set_option Elab.async false
set_option linter.all false
set_option maxRecDepth 100000
set_option maxHeartbeats 4000000
namespace ME
open PySem PySem.Spec PyProof.Rows L2
inductive Bm where
  | append | pop | popAt | split | join | lindex | get1 | get2 | scount
  deriving DecidableEq
def Bm.name : Bm → Str
  | .append => "append" | .pop => "pop" | .popAt => "pop" | .split => "split" | .join => "join" | .lindex => "index" | .get1 => "get" | .get2 => "get" | .scount => "count"
def Bm.ty : Bm → String
  | .append => "list" | .pop => "list" | .popAt => "list" | .split => "str" | .join => "str" | .lindex => "list" | .get1 => "dict" | .get2 => "dict" | .scount => "str"
def Bm.id : Bm → String
  | .append => "list.append" | .pop => "list.pop" | .popAt => "list.pop" | .split => "str.split" | .join => "str.join" | .lindex => "list.index" | .get1 => "dict.get" | .get2 => "dict.get" | .scount => "str.count"
def cellL (m : Sto) (n : Nat) : Option (List D) := match m[n]? with
  | some (.lst ds) => some ds
  | _ => none
def cellD (m : Sto) (n : Nat) : Option (List Key × List D) := match m[n]? with
  | some (.dct ks ds) => some (ks, ds)
  | _ => none
def findEq (d : D) : List D → Nat → Option Nat
  | [], _ => none
  | e :: ds, n => if D.eqv e d = true then some n else findEq d ds (n + 1)
def gAppend (o : D) (ds : List D) (m : Sto) : Res D := match o, ds with
  | .ref n, [d] => (match cellL m n with
    | some es => if es.length < 16777216 then .ok .non (m.set n (.lst (es ++ [d]))) else .stuck
    | none => .stuck)
  | _, _ => .stuck
def gPop (o : D) (ds : List D) (m : Sto) : Res D := match o, ds with
  | .ref n, [] => (match cellL m n with
    | some es => (match es[es.length - 1]? with
      | some d => .ok d (m.set n (.lst es.dropLast))
      | none => .stuck)
    | none => .stuck)
  | _, _ => .stuck
def gPopAt (o : D) (ds : List D) (m : Sto) : Res D := match o, ds with
  | .ref n, [.int i] => (match cellL m n with
    | some es => if 0 ≤ i ∧ i < 2 ^ 62 then (match es[i.toNat]? with
      | some d => .ok d (m.set n (.lst (es.eraseIdx i.toNat)))
      | none => .stuck) else .stuck
    | none => .stuck)
  | _, _ => .stuck
def gSplit (o : D) (ds : List D) (m : Sto) : Res D := match o, ds with
  | .str x, [.str y] => if (y.length == 0) = false ∧ x.length + 2 ≤ 16777216 then .ok (.lst ((Txt.split x y).map D.str)) m else .stuck
  | _, _ => .stuck
def gJoin (o : D) (ds : List D) (m : Sto) : Res D := match o, ds with
  | .str x, [d] => (match (seqOf m d).bind asStrs with
    | some ys => if (ys.map (·.length)).sum + ys.length * x.length ≤ 16777216 then .ok (.str (Txt.join x ys)) m else .stuck
    | none => .stuck)
  | _, _ => .stuck
def gIndex (o : D) (ds : List D) (m : Sto) : Res D := match ds with
  | [d] => (match lstOfR m o with
    | some es => if (okEq d && okEq (.lst es)) = true then (match findEq d es 0 with
      | some n => .ok (.int (n : Nat)) m
      | none => .stuck) else .stuck
    | none => .stuck)
  | _ => .stuck
def gCount (o : D) (ds : List D) (m : Sto) : Res D := match o, ds with
  | .str x, [.str y] => .ok (.int (Txt.count x y)) m
  | _, _ => .stuck
def gGet (o : D) (ds : List D) (m : Sto) : Res D := match ds with
  | [d] => (match dctR m o, asKey d with
    | some (ks, es), some k => .ok ((look k ks es).getD .non) m
    | _, _ => .stuck)
  | [d, e] => (match dctR m o, asKey d with
    | some (ks, es), some k => .ok ((look k ks es).getD e) m
    | _, _ => .stuck)
  | _ => .stuck
def evBm : Bm → D → List D → Sto → Res D
  | .append => gAppend
  | .pop => gPop
  | .popAt => gPopAt
  | .split => gSplit
  | .join => gJoin
  | .lindex => gIndex
  | .get1 => gGet
  | .get2 => gGet
  | .scount => gCount
def rM (K : PySem.W.Frag) (f : D → List D → Sto → Res D) : V → List V → Hp → VK → Prop := fun x xs H Q => ∃ Z r m d ds E, SR K Z r H m ∧ VR K Z r H d x ∧ VRs K Z r H ds xs ∧ GE K Z r H (f d ds m) Q E
section
variable {K : PySem.W.Frag} {Z : PZ} {r : List Addr} {H : Hp}
theorem SR.cellL {m : Sto} (s : SR K Z r H m) {n : Nat} {a : Addr} {ds : List D} (ha : r[n]? = some a) (e : cellL m n = some ds) : ∃ xs, H a = some (.lst xs) ∧ VRs K Z r H ds xs := by
  unfold ME.cellL at e
  split at e
  · rename_i es em
    cases e
    exact s.cells n _ a em ha
  · cases e
theorem SR.cellD {m : Sto} (s : SR K Z r H m) {n : Nat} {a : Addr} {ks : List Key} {ds : List D} (ha : r[n]? = some a) (e : cellD m n = some (ks, ds)) : ∃ xs, H a = some (.dK (ks.zip xs)) ∧ ks.length = xs.length ∧ VRs K Z r H ds xs := by
  unfold ME.cellD at e
  split at e
  · rename_i es em
    cases e
    exact s.cells n _ a em ha
  · cases e
theorem GE.wroteL {m : Sto} {n : Nat} {a : Addr} {ds : List D} {xs : List V} {Q : VK} {E : XK} {d : D} {v : V} (g : GE K Z r H (.ok d (m.set n (.lst ds))) Q E) (s : SR K Z r H m) (ha : r[n]? = some a) (hn : NF (H a)) (h : VRs K Z r H ds xs) (hv : VR K Z r H d v) : Q v (upd H a (.lst xs)) :=
  g.wrote s ha hn ⟨xs, upd_same, h.ext (.write ha hn)⟩ (hv.ext (.write ha hn))
theorem VRs.dropLast : ∀ {ds : List D} {xs : List V}, VRs K Z r H ds xs → VRs K Z r H ds.dropLast xs.dropLast := fun {ds xs} h => by
  rw [List.dropLast_eq_take, List.dropLast_eq_take, h.length]
  exact h.take _
theorem VRs.erase : ∀ (n : Nat) {ds : List D} {xs : List V}, VRs K Z r H ds xs → VRs K Z r H (ds.eraseIdx n) (xs.eraseIdx n) := fun n {ds xs} h => by
  rw [List.eraseIdx_eq_take_drop_succ, List.eraseIdx_eq_take_drop_succ]
  exact (h.take _).append (h.drop _)
theorem findEq_spec {d : D} : ∀ {ds : List D} {n k : Nat}, findEq d ds n = some k → n ≤ k ∧ (∃ e, ds[k - n]? = some e ∧ D.eqv e d = true) ∧ ∀ (j : Nat) e, j < k - n → ds[j]? = some e → D.eqv e d = false
  | [], n, k, h => by cases h
  | e :: ds, n, k, h => by
    rw [findEq] at h
    split at h
    · rename_i he
      cases h
      exact ⟨Nat.le_refl _, ⟨e, by simp, he⟩, fun j e' hj _ => by omega⟩
    · rename_i he
      obtain ⟨h1, ⟨e1, h2, h3⟩, h4⟩ := findEq_spec h
      refine ⟨by omega, ⟨e1, ?_, h3⟩, fun j e' hj hje => ?_⟩
      · rw [show k - n = (k - (n + 1)) + 1 by omega]; simpa using h2
      · cases j with
        | zero =>
          have : e = e' := by simpa using hje
          subst this
          simpa using he
        | succ j => exact h4 j e' (by omega) (by simpa using hje)
theorem pys_get : ∀ {ds : List D} {j : Nat}, (D.pys ds)[j]? = ds[j]?.map D.py
  | [], j => by simp [D.pys]
  | d :: ds, 0 => by simp [D.pys]
  | d :: ds, j + 1 => by
    rw [D.pys]
    simpa using pys_get (ds := ds) (j := j)
theorem lays_get : ∀ {ds : List D} {j : Nat} {d : D}, D.lays ds = true → ds[j]? = some d → d.lay = true
  | [], j, d, _, h => by simp at h
  | e :: ds, 0, d, g, h => by
    rw [D.lays, Bool.and_eq_true] at g
    have : e = d := by simpa using h
    subst this
    exact g.1
  | e :: ds, j + 1, d, g, h => by
    rw [D.lays, Bool.and_eq_true] at g
    exact lays_get g.2 (by simpa using h)
end
section
variable {X : Cx}
theorem bm_append : MtR X "list.append" (rM X.K gAppend) := by
  intro pins s σ H x xs v us Q I rx rxs ⟨Z, r, m, d, ds, E, hs, hd, hds, g⟩
  unfold gAppend at g
  split at g
  · split at g
    · rename_i es ees
      split at g
      · rename_i hl
        obtain ⟨a, rfl, ha⟩ := hd.ref_inv
        obtain ⟨y, rfl, hy⟩ := hds.one
        obtain ⟨ys, hH, hys⟩ := hs.cellL ha ees
        exact mt_append pins s σ H _ _ v us Q I rx rxs ⟨a, ys, y, rfl, rfl, hH, by rw [hys.length, ← size16]; exact hl, g.wroteL hs ha (by rw [hH]; trivial) (hys.append (.cons hy .nil)) .nonI⟩
      · exact g.elim
    · exact g.elim
  · exact g.elim
theorem bm_pop : MtR X "list.pop" (rM X.K gPop) := by
  intro pins s σ H x xs v us Q I rx rxs ⟨Z, r, m, d, ds, E, hs, hd, hds, g⟩
  unfold gPop at g
  split at g
  · split at g
    · rename_i es ees
      split at g
      · rename_i w hw
        obtain ⟨a, rfl, ha⟩ := hd.ref_inv
        obtain rfl := hds.inv_nil
        obtain ⟨ys, hH, hys⟩ := hs.cellL ha ees
        obtain ⟨y, hy, hv⟩ := hys.get hw
        exact mt_pop pins s σ H _ _ v us Q I rx rxs ⟨a, ys, y, rfl, rfl, hH, by rw [hys.length]; exact hy, g.wroteL hs ha (by rw [hH]; trivial) hys.dropLast hv⟩
      · exact g.elim
    · exact g.elim
  · exact g.elim
theorem bm_popAt : MtR X "list.pop" (rM X.K gPopAt) := by
  intro pins s σ H x xs v us Q I rx rxs ⟨Z, r, m, d, ds, E, hs, hd, hds, g⟩
  unfold gPopAt at g
  split at g
  · split at g
    · rename_i es ees
      split at g
      · rename_i hi
        split at g
        · rename_i w hw
          obtain ⟨a, rfl, ha⟩ := hd.ref_inv
          obtain ⟨z, rfl, hz⟩ := hds.one
          obtain rfl := hz.int_inv
          obtain ⟨ys, hH, hys⟩ := hs.cellL ha ees
          obtain ⟨y, hy, hv⟩ := hys.get hw
          have hlt := (List.getElem?_eq_some_iff.mp hy).1
          refine mt_popAt pins s σ H _ _ v us Q I rx rxs ⟨a, ys, _, _, y, rfl, rfl, hH, by omega, by omega, ?_, hy, g.wroteL hs ha (by rw [hH]; trivial) (hys.erase _) hv⟩
          refine (ixN_seq ?_).1
          unfold ixN
          rw [if_pos hi.1, if_pos (by omega)]
        · exact g.elim
      · exact g.elim
    · exact g.elim
  · exact g.elim
theorem bm_split : MtR X "str.split" (rM X.K gSplit) := by
  intro pins s σ H x xs v us Q I rx rxs ⟨Z, r, m, d, ds, E, hs, hd, hds, g⟩
  unfold gSplit at g
  split at g
  · split at g
    · rename_i hc
      obtain rfl := hd.str_inv
      obtain ⟨z, rfl, hz⟩ := hds.one
      obtain rfl := hz.str_inv
      exact mt_split pins s σ H _ _ v us Q I rx rxs ⟨_, _, rfl, rfl, hc.1, by rw [← size16]; exact hc.2, fun p hp => g.lst hs (.strs _) hp⟩
    · exact g.elim
  · exact g.elim
theorem bm_join : MtR X "str.join" (rM X.K gJoin) := by
  intro pins s σ H x xs v us Q I rx rxs ⟨Z, r, m, d, ds, E, hs, hd, hds, g⟩
  unfold gJoin at g
  split at g
  · split at g
    · rename_i ys eys
      split at g
      · rename_i hl
        obtain ⟨es, e1, e2⟩ := Option.bind_eq_some_iff.mp eys
        obtain rfl := hd.str_inv
        obtain ⟨z, rfl, hz⟩ := hds.one
        obtain ⟨a, zs, rfl, hq, hx⟩ := hs.seq hz e1
        obtain ⟨rfl, _⟩ := hx.asStrs e2
        exact mt_join pins s σ H _ _ v us Q I rx rxs ⟨_, a, ys, rfl, rfl, hq, hl, g.now hs .strI⟩
      · exact g.elim
    · exact g.elim
  · exact g.elim
theorem bm_index (hu : X.A.units + 65 < cLine) : MtR X "list.index" (rM X.K gIndex) := by
  intro pins s σ H x xs v us Q I rx rxs ⟨Z, r, m, d, ds, E, hs, hd, hds, g⟩
  unfold gIndex at g
  split at g
  · rename_i d'
    split at g
    · rename_i es ees
      split at g
      · rename_i ho
        split at g
        · rename_i n hn
          rw [Bool.and_eq_true] at ho
          obtain ⟨l1, l2⟩ := okEq_inv ho.1
          obtain ⟨l3, l4⟩ := okEq_inv ho.2
          have l3' : D.lays es = true := by simpa [D.lay] using l3
          have sl := D.shaped l3 l4
          rw [D.py] at sl
          obtain ⟨y, rfl, hy⟩ := hds.one
          obtain ⟨a, ys, rfl, hq, hys⟩ := hs.lstR hd ees
          obtain ⟨_, ⟨e1, h2, h3⟩, h4⟩ := findEq_spec hn
          rw [Nat.sub_zero] at h2 h4
          refine mt_indexD hu pins s σ H _ _ v us Q I rx rxs ⟨a, y, D.py d', D.pys es, n, D.py e1, rfl, rfl, .lst hq (VRs.dp es l3' hys), VR.dp d' l1 hy, sl, D.shaped l1 l2, ?_, ?_, fun j z' hj hz => ?_, g.now hs .intI⟩
          · rw [pys_get, h2]; rfl
          · rw [D.py_eqv _ _ (lays_get l3' h2) l1]; exact h3
          · rw [pys_get] at hz
            obtain ⟨e2, he2, rfl⟩ := Option.map_eq_some_iff.mp hz
            rw [D.py_eqv _ _ (lays_get l3' he2) l1]
            exact h4 j e2 hj he2
        · exact g.elim
      · exact g.elim
    · exact g.elim
  · exact g.elim
theorem bm_count : MtR X "str.count" (rM X.K gCount) := by
  intro pins s σ H x xs v us Q I rx rxs ⟨Z, r, m, d, ds, E, hs, hd, hds, g⟩
  unfold gCount at g
  split at g
  · obtain rfl := hd.str_inv
    obtain ⟨z, rfl, hz⟩ := hds.one
    obtain rfl := hz.str_inv
    exact mt_count pins s σ H _ _ v us Q I rx rxs ⟨_, _, rfl, rfl, g.now hs .intI⟩
  · exact g.elim
theorem asKey_kV {K : PySem.W.Frag} {Z : PZ} {r : List Addr} {H : Hp} {d : D} {x : V} {k : Key} (h : VR K Z r H d x) (e : asKey d = some k) : x = kV k := by
  cases d with
  | int i => cases e; exact h.int_inv
  | str i => cases e; exact h.str_inv
  | _ => cases e
theorem bm_get (hu : X.A.units + 1 < cLine) : MtR X "dict.get" (rM X.K gGet) := by
  intro pins s σ H x xs v us Q I rx rxs ⟨Z, r, m, d, ds, E, hs, hd, hds, g⟩
  unfold gGet at g
  split at g
  · split at g
    · rename_i ks es k eD eK
      obtain ⟨y, rfl, hy⟩ := hds.one
      obtain ⟨u, rfl, ru⟩ := Vals.one rxs
      obtain rfl := asKey_kV hy eK
      obtain ⟨a, ys, rfl, hH, hl, hys⟩ := hs.dctR hd eD
      have q := valV_look (k := k) hl hys
      cases (show v = Value.ref a from rx)
      refine d_get1 hu I (.inl ⟨_, k, hH, rfl, rfl⟩) ru fun w' s' I' rw' => ?_
      cases el : look k ks es with
      | none =>
        rw [el] at q g
        rw [q] at rw'
        exact ⟨.non, H, I', rw', g.now hs .nonI⟩
      | some e =>
        rw [el] at q g
        obtain ⟨z, e1, hz⟩ := q
        rw [e1] at rw'
        exact ⟨z, H, I', rw', g.now hs hz⟩
    · exact g.elim
  · split at g
    · rename_i ks es k eD eK
      obtain ⟨y, w, rfl, hy, hw⟩ := hds.two
      obtain ⟨u, u2, rfl, ru, ru2⟩ := Vals.two rxs
      obtain rfl := asKey_kV hy eK
      obtain ⟨a, ys, rfl, hH, hl, hys⟩ := hs.dctR hd eD
      have q := valV_look (k := k) hl hys
      cases (show v = Value.ref a from rx)
      refine d_get2 hu I (.inl ⟨_, k, hH, rfl, rfl⟩) ru ru2 fun w' s' I' rw' => ?_
      cases el : look k ks es with
      | none =>
        rw [el] at q g
        rw [q] at rw'
        exact ⟨w, H, I', rw', g.now hs hw⟩
      | some e =>
        rw [el] at q g
        obtain ⟨z, e1, hz⟩ := q
        rw [e1] at rw'
        exact ⟨z, H, I', rw', g.now hs hz⟩
    · exact g.elim
  · exact g.elim
/-- what a method's rule asks of the library -/
structure BmOk (X : Cx) (b : Bm) : Prop where
  pa : PlainAttrs b.ty
  slot : Slot b.ty b.name b.id
  hty : typeOf (.builtin b.id) = pure (.type "method_descriptor")
  run : MtR X b.id (rM X.K (evBm b))
theorem bm_ok (hu : X.A.units + 65 < cLine) : ∀ b : Bm, BmOk X b
  | .append => ⟨PySem.F.plainAttrs_list, PySem.F.slot_list_append, PySem.F.type_list_append, bm_append⟩
  | .pop => ⟨PySem.F.plainAttrs_list, PySem.F.slot_list_pop, PySem.F.type_list_pop, bm_pop⟩
  | .popAt => ⟨PySem.F.plainAttrs_list, PySem.F.slot_list_pop, PySem.F.type_list_pop, bm_popAt⟩
  | .split => ⟨PySem.F.plainAttrs_str, PySem.F.slot_str_split, PySem.F.type_str_split, bm_split⟩
  | .join => ⟨PySem.F.plainAttrs_str, PySem.F.slot_str_join, PySem.F.type_str_join, bm_join⟩
  | .lindex => ⟨PySem.F.plainAttrs_list, PySem.F.slot_list_index, PySem.F.type_list_index, bm_index hu⟩
  | .get1 => ⟨PySem.F.plainAttrs_dict, PySem.F.slot_dict_get, PySem.F.type_dict_get, bm_get (by omega)⟩
  | .get2 => ⟨PySem.F.plainAttrs_dict, PySem.F.slot_dict_get, PySem.F.type_dict_get, bm_get (by omega)⟩
  | .scount => ⟨PySem.F.plainAttrs_str, PySem.F.slot_str_count, PySem.F.type_str_count, bm_count⟩
end
end ME
set_option Elab.async false
set_option linter.all false
set_option maxRecDepth 100000
set_option maxHeartbeats 4000000
namespace ME
open PySem PySem.Spec PyProof.Rows L2
/-! ### a small syntax of our own, and what it comes to -/
abbrev Env := List (Option D)
mutual
/-- the same tree -/
def D.same : D → D → Bool
  | .non, .non => true
  | .bl a, .bl b => decide (a = b)
  | .int a, .int b => decide (a = b)
  | .str a, .str b => decide (a = b)
  | .tup a, .tup b => D.sames a b
  | .lst a, .lst b => D.sames a b
  | .rol a, .rol b => D.sames a b
  | .obj c ns a, .obj c' ns' b => decide (c = c') && decide (ns = ns') && D.sames a b
  | .dct ns a, .dct ns' b => decide (ns = ns') && D.sames a b
  | .ref n, .ref k => decide (n = k)
  | _, _ => false
def D.sames : List D → List D → Bool
  | [], [] => true
  | d :: ds, e :: es => D.same d e && D.sames ds es
  | _, _ => false
end
mutual
theorem D.same_eq : ∀ (d e : D), D.same d e = true → d = e
  | .non, e, h => by cases e <;> first | rfl | cases h
  | .bl a, e, h => by
    cases e with
    | bl b => rw [D.same] at h; rw [of_decide_eq_true h]
    | _ => cases h
  | .int a, e, h => by
    cases e with
    | int b => rw [D.same] at h; rw [of_decide_eq_true h]
    | _ => cases h
  | .str a, e, h => by
    cases e with
    | str b => rw [D.same] at h; rw [of_decide_eq_true h]
    | _ => cases h
  | .tup a, e, h => by
    cases e with
    | tup b => rw [D.same] at h; rw [D.sames_eq a b h]
    | _ => cases h
  | .lst a, e, h => by
    cases e with
    | lst b => rw [D.same] at h; rw [D.sames_eq a b h]
    | _ => cases h
  | .rol a, e, h => by
    cases e with
    | rol b => rw [D.same] at h; rw [D.sames_eq a b h]
    | _ => cases h
  | .obj c ns a, e, h => by
    cases e with
    | obj c' ns' b =>
      rw [D.same, Bool.and_eq_true, Bool.and_eq_true] at h
      rw [of_decide_eq_true h.1.1, of_decide_eq_true h.1.2, D.sames_eq a b h.2]
    | _ => cases h
  | .dct ns a, e, h => by
    cases e with
    | dct ns' b =>
      rw [D.same, Bool.and_eq_true] at h
      rw [of_decide_eq_true h.1, D.sames_eq a b h.2]
    | _ => cases h
  | .ref n, e, h => by
    cases e with
    | ref k => rw [D.same] at h; rw [of_decide_eq_true h]
    | _ => cases h
theorem D.sames_eq : ∀ (ds es : List D), D.sames ds es = true → ds = es
  | [], es, h => by cases es <;> first | rfl | cases h
  | d :: ds, es, h => by
    cases es with
    | nil => cases h
    | cons e es =>
      rw [D.sames, Bool.and_eq_true] at h
      rw [D.same_eq d e h.1, D.sames_eq ds es h.2]
end
/-- what is walked over: the items; the cell they stand in, where that may change -/
structure Itm where
  ds : List D
  n : Option Nat
/-- that cell is as it was -/
def Itm.chk (i : Itm) (m : Sto) : Bool := match i.n with
  | none => true
  | some n => (match cellL m n with
    | some es => D.sames es i.ds
    | none => false)
/-- what a def of the text does: from its arguments and the cells -/
abbrev Fn := List D → Sto → Res D
/-- a form of expression told elsewhere: its parts, what it comes to from what they come to -/
structure Gn where
  sub : Scope → PySem.Expr → Option (List PySem.Expr)
  ev : List (Env → Sto → Res D) → Env → Sto → Res D
/-- .. of what is walked over -/
structure Gi where
  sub : Scope → PySem.Expr → PySem.Expr → Option (List PySem.Expr)
  ev : List (Env → Sto → Res D) → Env → Sto → Res Itm
/-- a built-in type, or a class of the text -/
inductive Ty where
  | bi (n : String)
  | own (c : Str)
mutual
inductive Ex where
  | var (i : Nat) | int (i : Int) | str (x : Str) | bl (b : Bool) | non | nev | glo (x : Str) (d : D)
  | bin (op : Operator) (a b : Ex) | neg (a : Ex) | nt (a : Ex) | and (es : Exs) | or (es : Exs)
  | cmp (op : CmpOp) (a b : Ex) | chn (o1 o2 : CmpOp) (a b c : Ex) | ite (c a b : Ex)
  | tup (es : Exs) | lst (es : Exs) | lstM (es : Exs)
  | idx (a b : Ex) | get (a b : Ex) | slc (a : Ex) (lo hi : Exs) | rev (a : Ex)
  | bf (b : Bf) (es : Exs) | tupR (a : Ex) | isi (a : Ex) (t : Ty) (cs : List Str) | bm (b : Bm) (o : Ex) (es : Exs)
  | callK (x : Str) (F : Fn) (ks : List Str) (perm : List Nat) (es : Exs) | call (x : Str) (F : Fn) (es : Exs) | mth (c : Str) (o : Ex) (m : Str) (F : Fn) (es : Exs) | new (c : Str) (F : Fn) (es : Exs)
  | fld (c : Str) (o : Ex) (f : Str) | prp (c : Str) (o : Ex) (f : Str) (F : Fn)
  | lc (elt : Ex) (t : Tgt) (it : Itr) (ifs : Exs) (own : List (Str × Nat))
  | lcM (elt : Ex) (t : Tgt) (it : Itr) (ifs : Exs) (own : List (Str × Nat))
  | dctM
  | gen (G : Gn) (es : Exs)
inductive Exs where
  | nil
  | cons (e : Ex) (es : Exs)
inductive Tgt where
  | name (i : Nat)
  | tup (ts : Tgts)
  | sub (o i : Ex)
  | put (o i : Ex)
  | att (c : Str) (o : Ex) (f : Str)
inductive Tgts where
  | nil
  | cons (t : Tgt) (ts : Tgts)
inductive Itr where
  | lst (e : Ex) | rng1 (e : Ex) | rng2 (a b : Ex) | enumL (e : Ex)
  | gen (G : Gi) (es : Exs)
end
def wipeE (d : Env) : List Nat → Env
  | [] => d
  | v :: vs => (wipeE d vs).set v none
def truth (m : Sto) : D → Option Bool
  | .non => some false
  | .bl b => some b
  | .int i => some (i != 0)
  | .str x => if x.length ≤ 16777216 then some ((x.length : Int) != 0) else none
  | d => (seqOf m d).map fun ds => !ds.isEmpty
def evTru (d : D) (m : Sto) : Res Bool := match truth m d with
  | some b => .ok b m
  | none => .stuck
/-- o.f of an instance, changed or not -/
def fldOf (f : Str) : List Str → List D → Option D
  | n :: ns, d :: ds => if n = f then some d else fldOf f ns ds
  | _, _ => none
def insOf (m : Sto) : D → Option (Str × List Str × List D)
  | .obj c ns fs => some (c, ns, fs)
  | .ref n => (match m[n]? with
    | some (.ins c ns fs) => some (c, ns, fs)
    | _ => none)
  | _ => none
def evFld (c f : Str) (d : D) (m : Sto) : Res D := match insOf m d with
  | some (c', ns, fs) => if c' = c then (match fldOf f ns fs with
    | some v => .ok v m
    | none => .stuck) else .stuck
  | none => .stuck
/-- an instance of the class without a field of this name -/
def insIs (c f : Str) (d : D) (m : Sto) : Bool := match insOf m d with
  | some (c', ns, _) => decide (c' = c) && decide (f ∉ ns)
  | none => false
def evMth (c f : Str) (F : Fn) (d : D) (ds : List D) (m : Sto) : Res D := if insIs c f d m = true then F (d :: ds) m else .stuck
/-- the built-in type of a value that is no instance -/
def tyOf (m : Sto) : D → Option String
  | .non => some "NoneType"
  | .bl _ => some "bool"
  | .int _ => some "int"
  | .str _ => some "str"
  | .tup _ => some "tuple"
  | .lst _ => some "list"
  | .dct _ _ => some "dict"
  | .ref n => (match m[n]? with
    | some (.lst _) => some "list"
    | some (.dct _ _) => some "dict"
    | _ => none)
  | _ => none
def evIsi (t : Ty) (cs : List Str) (d : D) (m : Sto) : Res D := match tyOf m d with
  | some u => (match t with
    | .bi n => bRes m (kitB u n)
    | .own _ => .ok (.bl false) m)
  | none => (match insOf m d with
    | some (c', _, _) => if c' ∈ cs then (match t with
      | .bi _ => .ok (.bl false) m
      | .own c => .ok (.bl (decide (c' = c))) m) else .stuck
    | none => .stuck)
/-- C(..): a new instance, then its __init__ (F) -/
def evNew (c : Str) (F : Fn) (vs : List D) (m : Sto) : Res D := (F (.ref m.length :: vs) (m ++ [.ins c [] []])).bind fun v m1 => (match v with
  | .non => .ok (.ref m.length) m1
  | _ => .stuck)
/-- the receiver is of the method's type -/
def bmTy (b : Bm) (d : D) (m : Sto) : Bool := match b.ty, d with
  | "str", .str _ => true
  | "list", d => (lstOfR m d).isSome
  | "dict", d => (dctR m d).isSome
  | _, _ => false
/-- a slice's part -/
def toPart (l : List D) (k : Option Int → Res D) : Res D := match l with
  | [] => k none
  | [.int i] => k (some i)
  | _ => .stuck
def rangeD (lo : Int) (n : Nat) : List D := (List.range n).map fun (i : Nat) => .int (lo + (i : Int))
def setC (m : Sto) (n : Nat) (c : Cell) : Sto := m.set n c
/-- o[i] = v of a list -/
def evSub (o i v : D) (m : Sto) : Option Sto := match o, i with
  | .ref n, .int k => (match cellL m n with
    | some es => (match ixN es.length k with
      | some j => some (m.set n (.lst (es.set j v)))
      | none => none)
    | none => none)
  | _, _ => none
/-- o[i] = v of a dict -/
def evPut (o i v : D) (m : Sto) : Option Sto := match o, asKey i with
  | .ref n, some k => (match cellD m n with
    | some (ks, es) => if ks.length < 1000000 then some (m.set n (.dct (putKs k ks) (putDs k v ks es))) else none
    | none => none)
  | _, _ => none
def putNs (f : Str) : List Str → List Str
  | [] => [f]
  | n :: ns => if n = f then n :: ns else n :: putNs f ns
def putFs (f : Str) (v : D) : List Str → List D → List D
  | n :: ns, d :: ds => if n = f then v :: ds else d :: putFs f v ns ds
  | _, _ => [v]
/-- o.f = v -/
def evAtt (c f : Str) (o v : D) (m : Sto) : Option Sto := match o with
  | .ref n => (match m[n]? with
    | some (.ins c' ns fs) => if c' = c ∧ ns.length < 900 then some (m.set n (.ins c' (putNs f ns) (putFs f v ns fs))) else none
    | _ => none)
  | _ => none
def optRes (o : Option Sto) (d : Env) : Res Env := match o with
  | some m => .ok d m
  | none => .stuck
/-- a list -/
def itLst (x : D) (m1 : Sto) : Res Itm := match x with
    | .lst ds => .ok ⟨ds, none⟩ m1
    | .rol ds => .ok ⟨ds, none⟩ m1
    | .ref n => (match cellL m1 n with
      | some ds => .ok ⟨ds, some n⟩ m1
      | none => .stuck)
    | _ => .stuck
/-- a list, a tuple, a text -/
def itAny (x : D) (m1 : Sto) : Res Itm := match x with
    | .tup ds => .ok ⟨ds, none⟩ m1
    | .str z => .ok ⟨z.cps.toList.map fun c => D.str ⟨#[c]⟩, none⟩ m1
    | x => itLst x m1
/-- enumerate of a list, a tuple -/
def itEnum (x : D) (m1 : Sto) : Res Itm := match x with
    | .lst ds => .ok ⟨ds.mapIdx fun i v => D.tup [.int (i : Nat), v], none⟩ m1
    | .rol ds => .ok ⟨ds.mapIdx fun i v => D.tup [.int (i : Nat), v], none⟩ m1
    | .tup ds => .ok ⟨ds.mapIdx fun i v => D.tup [.int (i : Nat), v], none⟩ m1
    | _ => .stuck
/-- the keywords' values in the parameters' order -/
def pick {α : Type} (perm : List Nat) (xs : List α) : List α := perm.filterMap fun i => xs[i]?
/-- an error is not followed (out of a comprehension) -/
def Res.nox {α : Type} : Res α → Res α
  | .exc _ _ _ => .stuck
  | r => r
def lcLoop (chk : Sto → Bool) (ft : D → Sto → Res Env) (fb : Env → Sto → Res Bool) (fe : Env → Sto → Res D) : List D → List D → Sto → Res D
  | [], acc, m => if chk m = true then .ok (.lst acc) m else .stuck
  | d :: ds, acc, m => if chk m = true then ((ft d m).nox.bind fun e1 m1 => (fb e1 m1).nox.bind fun b m2 => if b = true then (fe e1 m2).nox.bind fun v m3 => (if acc.length < 1000000 then lcLoop chk ft fb fe ds (acc ++ [v]) m3 else .stuck) else lcLoop chk ft fb fe ds acc m2) else .stuck
/-- .. to a list that may be changed -/
def lcLoopM (chk : Sto → Bool) (ft : D → Sto → Res Env) (fb : Env → Sto → Res Bool) (fe : Env → Sto → Res D) : List D → List D → Sto → Res D
  | [], acc, m => if chk m = true then (.ok (.ref m.length) (m ++ [.lst acc])) else .stuck
  | d :: ds, acc, m => if chk m = true then ((ft d m).nox.bind fun e1 m1 => (fb e1 m1).nox.bind fun b m2 => if b = true then (fe e1 m2).nox.bind fun v m3 => (if acc.length < 1000000 then lcLoopM chk ft fb fe ds (acc ++ [v]) m3 else .stuck) else lcLoopM chk ft fb fe ds acc m2) else .stuck
/-- xs[::-1] -/
def evRev (x : D) (m : Sto) : Res D := match x with
  | .tup ds => .ok (.tup ds.reverse) m
  | x => (match lstOfR m x with
    | some ds => .ok (.lst ds.reverse) m
    | none => .stuck)
mutual
def ev : Ex → Env → Sto → Res D
  | .var i => fun d m => (match d[i]? with
    | some (some v) => .ok v m
    | _ => .stuck)
  | .int i => fun _ m => .ok (.int i) m
  | .str x => fun _ m => .ok (.str x) m
  | .bl b => fun _ m => .ok (.bl b) m
  | .non => fun _ m => .ok .non m
  | .nev => fun _ _ => .stuck
  | .glo _ v => fun _ m => .ok v m
  | .bin op a b => fun d m => (ev a d m).bind fun x m1 => (ev b d m1).bind fun y m2 => evBin op x y m2
  | .neg a => fun d m => (ev a d m).bind fun x m1 => (match x with
    | .int i => .ok (.int (-i)) m1
    | _ => .stuck)
  | .nt a => fun d m => (ev a d m).bind fun x m1 => (evTru x m1).bind fun b m2 => .ok (.bl (!b)) m2
  | .and es => fun d m => evAnd es d m
  | .or es => fun d m => evOr es d m
  | .cmp op a b => fun d m => (ev a d m).bind fun x m1 => (ev b d m1).bind fun y m2 => evCmp op x y m2
  | .chn o1 o2 a b c => fun d m => (ev a d m).bind fun x m1 => (ev b d m1).bind fun y m2 => (evCmp o1 x y m2).bind fun z m3 => (match z with
    | .bl true => (ev c d m3).bind fun w m4 => evCmp o2 y w m4
    | .bl false => .ok (.bl false) m3
    | _ => .stuck)
  | .ite c a b => fun d m => (ev c d m).bind fun x m1 => (evTru x m1).bind fun k m2 => if k = true then ev a d m2 else ev b d m2
  | .tup es => fun d m => (evs es d m).bind fun vs m1 => if vs.length < 1000 then .ok (.tup vs) m1 else .stuck
  | .lst es => fun d m => (evs es d m).bind fun vs m1 => if vs.length < 1000 then .ok (.lst vs) m1 else .stuck
  | .lstM es => fun d m => (evs es d m).bind fun vs m1 => if vs.length < 1000 then .ok (.ref m1.length) (m1 ++ [.lst vs]) else .stuck
  | .idx a b => fun d m => (ev a d m).bind fun x m1 => (ev b d m1).bind fun y m2 => evIdx x y m2
  | .get a b => fun d m => (ev a d m).bind fun x m1 => (ev b d m1).bind fun y m2 => evGet x y m2
  | .slc a lo hi => fun d m => (ev a d m).bind fun x m1 => (evs lo d m1).bind fun l m2 => toPart l fun u => (evs hi d m2).bind fun h m3 => toPart h fun w => evSlc x u w m3
  | .rev a => fun d m => (ev a d m).bind evRev
  | .bf b es => fun d m => (evs es d m).bind fun vs m1 => evBf b vs m1
  | .tupR a => fun d m => (ev a d m).bind fun x m1 => (match x with
    | .int n => if 0 ≤ n ∧ n ≤ 100000 then .ok (.tup (rangeD 0 n.toNat)) m1 else .stuck
    | _ => .stuck)
  | .isi a t cs => fun d m => (ev a d m).bind fun x m1 => evIsi t cs x m1
  | .bm b o es => fun d m => (ev o d m).bind fun x m1 => if bmTy b x m1 = true then (evs es d m1).bind fun vs m2 => evBm b x vs m2 else .stuck
  | .callK _ F ks perm es => fun d m => (evs es d m).bind fun vs m1 => if vs.length = ks.length then F (pick perm vs) m1 else .stuck
  | .call _ F es => fun d m => (evs es d m).bind fun vs m1 => F vs m1
  | .mth c o f F es => fun d m => (ev o d m).bind fun x m1 => if insIs c f x m1 = true then (evs es d m1).bind fun vs m2 => F (x :: vs) m2 else .stuck
  | .new c F es => fun d m => (evs es d m).bind fun vs m1 => evNew c F vs m1
  | .fld c o f => fun d m => (ev o d m).bind fun x m1 => evFld c f x m1
  | .prp c o _ F => fun d m => (ev o d m).bind fun x m1 => evMth c (Str.ofString "") F x [] m1
  | .lc elt t it ifs own => fun d m => (evIt it d m).bind fun items m1 =>
      lcLoop items.chk (fun v m => asgn t v (wipeE d (own.map (·.2))) m) (fun e m => evIfs ifs e m) (fun e m => ev elt e m) items.ds [] m1
  | .lcM elt t it ifs own => fun d m => (evIt it d m).bind fun items m1 =>
      lcLoopM items.chk (fun v m => asgn t v (wipeE d (own.map (·.2))) m) (fun e m => evIfs ifs e m) (fun e m => ev elt e m) items.ds [] m1
  | .dctM => fun _ m => .ok (.ref m.length) (m ++ [.dct [] []])
  | .gen G es => fun d m => G.ev (evl es) d m
def evl : Exs → List (Env → Sto → Res D)
  | .nil => []
  | .cons e es => ev e :: evl es
def evs : Exs → Env → Sto → Res (List D)
  | .nil => fun _ m => .ok [] m
  | .cons e es => fun d m => (ev e d m).bind fun x m1 => (evs es d m1).bind fun xs m2 => .ok (x :: xs) m2
def evAnd : Exs → Env → Sto → Res D
  | .nil => fun _ _ => .stuck
  | .cons e .nil => fun d m => ev e d m
  | .cons e (.cons e2 es) => fun d m => (ev e d m).bind fun x m1 => (evTru x m1).bind fun b m2 => if b = true then evAnd (.cons e2 es) d m2 else .ok x m2
def evOr : Exs → Env → Sto → Res D
  | .nil => fun _ _ => .stuck
  | .cons e .nil => fun d m => ev e d m
  | .cons e (.cons e2 es) => fun d m => (ev e d m).bind fun x m1 => (evTru x m1).bind fun b m2 => if b = true then .ok x m2 else evOr (.cons e2 es) d m2
/-- no test, or one -/
def evIfs : Exs → Env → Sto → Res Bool
  | .nil => fun _ m => .ok true m
  | .cons e .nil => fun d m => (ev e d m).bind fun x m1 => evTru x m1
  | .cons _ (.cons _ _) => fun _ _ => .stuck
def asgn : Tgt → D → Env → Sto → Res Env
  | .name i => fun v d m => .ok (d.set i (some v)) m
  | .tup ts => fun v d m => (match seqOf m v with
    | some vs => asgns ts vs d m
    | none => .stuck)
  | .sub o i => fun v d m => (ev o d m).bind fun x m1 => (ev i d m1).bind fun y m2 => optRes (evSub x y v m2) d
  | .put o i => fun v d m => (ev o d m).bind fun x m1 => (ev i d m1).bind fun y m2 => optRes (evPut x y v m2) d
  | .att c o f => fun v d m => (ev o d m).bind fun x m1 => optRes (evAtt c f x v m1) d
def asgns : Tgts → List D → Env → Sto → Res Env
  | .nil => fun vs d m => (match vs with
    | [] => .ok d m
    | _ => .stuck)
  | .cons t ts => fun vs d m => (match vs with
    | v :: vs => (asgn t v d m).bind fun d1 m1 => asgns ts vs d1 m1
    | _ => .stuck)
def evIt : Itr → Env → Sto → Res Itm
  | .lst e => fun d m => (ev e d m).bind itAny
  | .rng1 e => fun d m => (ev e d m).bind fun x m1 => (match x with
    | .int n => if -(2 ^ 62) ≤ n ∧ n < 2 ^ 62 then .ok ⟨rangeD 0 n.toNat, none⟩ m1 else .stuck
    | _ => .stuck)
  | .rng2 a b => fun d m => (ev a d m).bind fun x m1 => (ev b d m1).bind fun y m2 => (match x, y with
    | .int i, .int j => if -(2 ^ 62) ≤ i ∧ i < 2 ^ 62 ∧ -(2 ^ 62) ≤ j ∧ j < 2 ^ 62 then .ok ⟨rangeD i (j - i).toNat, none⟩ m2 else .stuck
    | _, _ => .stuck)
  | .enumL e => fun d m => (ev e d m).bind itEnum
  | .gen G es => fun d m => G.ev (evl es) d m
end
/-! ### statements -/
inductive Sm where
  | asg (t : Tgt) (e : Ex)
  | par2 (i j : Nat) (a b : Ex)
  | par3 (i j k : Nat) (a b c : Ex)
  | aug (i : Nat) (op : Operator) (e : Ex)
  | ret (e : Ex) | retN
  | ite (c : Ex) (a b : List Sm)
  | loop (t : Tgt) (it : Itr) (body : List Sm)
  | whl (c : Ex) (body : List Sm)
  | exp (e : Ex)
  | pass | brk | cnt
  | never
  | doc
  | loopE (c : Str) (i : Nat) (f : Str)
  | rse (c : Str) (es : Exs)
  | loopD (c : Str) (i : Nat) (f : Str) (kd : Bool) (t : Tgt) (body : List Sm)
inductive Out where
  | nx | bk | ct
  | ret (d : D)
/-- a statement's end: where to go on, the names, the cells -/
inductive SRes where
  | ok (o : Out) (d : Env) (m : Sto)
  | exc (c : Str) (es : List D) (d : Env) (m : Sto)
  | stuck
def SRes.thn (r : SRes) (f : Env → Sto → SRes) : SRes := match r with
  | .ok .nx d m => f d m
  | r => r
/-- an expression's end, then a statement's -/
def Res.then {α : Type} (r : Res α) (d : Env) (f : α → Sto → SRes) : SRes := match r with
  | .ok a m => f a m
  | .exc c es m => .exc c es d m
  | .stuck => .stuck
def whLoop (fc : Env → Sto → Res Bool) (fb : Env → Sto → SRes) : Nat → Env → Sto → SRes
  | 0, _, _ => .stuck
  | k + 1, d, m => (fc d m).then d fun b m1 => if b = true then (match fb d m1 with
    | .ok .nx d2 m2 => whLoop fc fb k d2 m2
    | .ok .ct d2 m2 => whLoop fc fb k d2 m2
    | .ok .bk d2 m2 => .ok .nx d2 m2
    | r => r) else .ok .nx d m1
def forLoop (chk : Sto → Bool) (ft : D → Env → Sto → Res Env) (fb : Env → Sto → SRes) : List D → Env → Sto → SRes
  | [], d, m => if chk m = true then .ok .nx d m else .stuck
  | v :: vs, d, m => if chk m = true then (ft v d m).nox.then d fun d1 m1 => (match fb d1 m1 with
    | .ok .nx d2 m2 => forLoop chk ft fb vs d2 m2
    | .ok .ct d2 m2 => forLoop chk ft fb vs d2 m2
    | .ok .bk d2 m2 => .ok .nx d2 m2
    | r => r) else .stuck
/-- x op= e of ints -/
def evAug (i : Nat) (op : Operator) (fe : Env → Sto → Res D) (d : Env) (m : Sto) : SRes := match op, d[i]? with
  | .Add, some (some (.int a)) => (fe d m).then d fun y m1 => (match y with
    | .int b => .ok .nx (d.set i (some (.int (a + b)))) m1
    | _ => .stuck)
  | .Sub, some (some (.int a)) => (fe d m).then d fun y m1 => (match y with
    | .int b => .ok .nx (d.set i (some (.int (a - b)))) m1
    | _ => .stuck)
  | _, _ => .stuck
/-- a walk over the values of o.f, an empty dict -/
def evEmp (c : Str) (i : Nat) (f : Str) (d : Env) (m : Sto) : SRes := match d[i]? with
  | some (some x) => (match evFld c f x m with
    | .ok (.ref n) _ => (match cellD m n with
      | some ([], []) => .ok .nx d m
      | _ => .stuck)
    | _ => .stuck)
  | _ => .stuck
/-- a dict's values, its pairs -/
def dctIt (kd : Bool) (ks : List Key) (es : List D) : List D := if kd = true then List.zipWith (fun k e => D.tup [keyD k, e]) ks es else es
def lokB (n : Nat) (ks : List Key) (es : List D) (m : Sto) : Bool := match m[n]? with
  | some (.lok ks' es') => decide (ks' = ks) && D.sames es' es
  | _ => false
/-- the dict is free again -/
def unlok (n : Nat) (ks : List Key) (es : List D) : SRes → SRes
  | .ok o d m => if lokB n ks es m = true then .ok o d (m.set n (.dct ks es)) else .stuck
  | _ => .stuck
/-- a walk over o.f.values() (kd false), o.f.items() (true), the dict locked -/
def evLoopD (c : Str) (i : Nat) (f : Str) (kd : Bool) (ft : D → Env → Sto → Res Env) (fb : Env → Sto → SRes) (d : Env) (m : Sto) : SRes := match d[i]? with
  | some (some x) => (match evFld c f x m with
    | .ok (.ref n) _ => (match cellD m n with
      | some (ks, es) => unlok n ks es (forLoop (lokB n ks es) ft fb (dctIt kd ks es) d (m.set n (.lok ks es)))
      | _ => .stuck)
    | _ => .stuck)
  | _ => .stuck
mutual
def ex (k : Nat) : Sm → Env → Sto → SRes
  | .asg t e => fun d m => (ev e d m).then d fun v m1 => (asgn t v d m1).nox.then d fun d1 m2 => .ok .nx d1 m2
  | .par2 i j a b => fun d m => (ev a d m).then d fun x m1 => (ev b d m1).then d fun y m2 => .ok .nx ((d.set i (some x)).set j (some y)) m2
  | .par3 i j l a b c => fun d m => (ev a d m).then d fun x m1 => (ev b d m1).then d fun y m2 => (ev c d m2).then d fun z m3 => .ok .nx (((d.set i (some x)).set j (some y)).set l (some z)) m3
  | .aug i op e => fun d m => evAug i op (fun d m => ev e d m) d m
  | .ret e => fun d m => (ev e d m).then d fun v m1 => .ok (.ret v) d m1
  | .retN => fun d m => .ok (.ret .non) d m
  | .ite c a b => fun d m => ((ev c d m).bind evTru).then d fun t m1 => if t = true then exs k a d m1 else exs k b d m1
  | .loop t it body => fun d m => (evIt it d m).then d fun vs m1 => forLoop vs.chk (fun v d m => asgn t v d m) (fun d m => exs k body d m) vs.ds d m1
  | .whl c body => fun d m => whLoop (fun d m => (ev c d m).bind evTru) (fun d m => exs k body d m) k d m
  | .exp e => fun d m => (ev e d m).then d fun _ m1 => .ok .nx d m1
  | .pass => fun d m => .ok .nx d m
  | .brk => fun d m => .ok .bk d m
  | .cnt => fun d m => .ok .ct d m
  | .never => fun _ _ => .stuck
  | .doc => fun d m => .ok .nx d m
  | .loopE c i f => fun d m => evEmp c i f d m
  | .loopD c i f kd t body => fun d m => evLoopD c i f kd (fun v d m => asgn t v d m) (fun d m => exs k body d m) d m
  | .rse c es => fun d m => (evs es d m).then d fun vs m1 => .exc c vs d m1
def exs (k : Nat) : List Sm → Env → Sto → SRes
  | [] => fun d m => .ok .nx d m
  | s :: ss => fun d m => (ex k s d m).thn fun d1 m1 => exs k ss d1 m1
end
end ME
set_option Elab.async false
set_option linter.all false
set_option maxRecDepth 100000
set_option maxHeartbeats 4000000
namespace ME
open PySem PySem.Spec PyProof.Rows L2
/-! ### the small syntax against the text's own -/
def visB (sc : Scope) (x : Str) : Bool := match sc.names.lookup x with
  | some .local => true
  | some .cell => true
  | some .free => true
  | _ => false
def locB (sc : Scope) (x : Str) : Bool := match sc.names.lookup x with
  | some .local => true
  | _ => false
/-- a local, or a cell of the block at hand -/
def loc2B (fl : Str → Bool) (sc : Scope) (x : Str) : Bool := match sc.names.lookup x with
  | some .local => true
  | some .cell => fl x
  | _ => false
def ownCell (sc : Scope) (x : Str) : Bool := sc.names.lookup x == some .cell
def gloB (sc : Scope) (x : Str) : Bool := (match sc.names.lookup x with
  | some .globalImplicit => true
  | _ => false) && !(x == ("__debug__" : Str)) && !(x == ("__name__" : Str))
def notStar : PySem.Expr → Bool
  | .Starred _ _ => false
  | _ => true
def notSlice : PySem.Expr → Bool
  | .Slice _ _ _ _ => false
  | _ => true
/-- o.f with o no «super()» -/
def noSup : PySem.Expr → Bool
  | .Call (.Name id _) [] [] _ => !(id == ("super" : Str))
  | _ => true
def notSet : PySem.Expr → Bool
  | .Set _ _ _ => false
  | _ => true
def notComp : PySem.Expr → Bool
  | .ListComp _ _ _ _ => false
  | .SetComp _ _ _ _ => false
  | .DictComp _ _ _ _ _ => false
  | _ => true
def tyName : Ty → Str
  | .bi n => Str.ofString n
  | .own c => c
mutual
/- the slots that a target writes -/
def tix : Tgt → List Nat
  | .name i => [i]
  | .tup ts => tixs ts
  | _ => []
def tixs : Tgts → List Nat
  | .nil => []
  | .cons t ts => tix t ++ tixs ts
end
def ownOk (t : Tgt) (own : List (Str × Nat)) : Bool := (tix t).all fun i => decide (i ∈ own.map (·.2))
def isTupT : PySem.Expr → Bool
  | .Tuple _ _ _ => true
  | _ => false
/-- as a test: no «a if c else b» -/
def tstOk : Ex → Bool
  | .ite _ _ _ => false
  | .nt a => tstOk a
  | .and es => tstOks es
  | .or es => tstOks es
  | _ => true
where tstOks : Exs → Bool
  | .nil => true
  | .cons e es => tstOk e && tstOks es
/-- no test's own form -/
def plainB : PySem.Expr → Bool
  | .UnaryOp .Not _ _ => false
  | .BoolOp _ _ _ => false
  | .IfExp _ _ _ _ => false
  | .ListComp _ _ _ _ => false
  | .Compare _ _ _ _ => false
  | _ => true
mutual
def mE (N : List Str) : Scope → Ex → PySem.Expr → Bool
  | sc, .var i, .Name x _ => decide (N[i]? = some x) && visB sc x && !(x == ("__debug__" : Str)) && !(x == ("__classdict__" : Str))
  | _, .int i, .Constant (.int j) _ _ => decide (i = j)
  | _, .str x, .Constant (.str y) _ _ => decide (x = y)
  | _, .bl x, .Constant (.bool y) _ _ => decide (x = y)
  | _, .non, .Constant .none _ _ => true
  | _, .nev, _ => true
  | sc, .glo x _, .Name y _ => decide (x = y) && gloB sc x
  | sc, .bin op a b, .BinOp a' op' b' _ => decide (op = op') && mE N sc a a' && mE N sc b b'
  | sc, .neg a, .UnaryOp .USub a' _ => mE N sc a a'
  | sc, .nt a, .UnaryOp .Not a' _ => mE N sc a a'
  | sc, .and es, .BoolOp .And vs _ => mEs N sc es vs
  | sc, .or es, .BoolOp .Or vs _ => mEs N sc es vs
  | sc, .cmp op a b, .Compare a' [op'] [b'] _ => decide (op = op') && !(behindInMarks op' b') && mE N sc a a' && mE N sc b b'
  | sc, .chn o1 o2 a b c, .Compare a' [o1', o2'] [b', c'] _ => decide (o1 = o1') && decide (o2 = o2') && !(lastMarks [o1', o2'] [b', c']) && mE N sc a a' && mE N sc b b' && mE N sc c c'
  | sc, .ite c a b, .IfExp c' a' b' _ => tstOk c && mE N sc c c' && mE N sc a a' && mE N sc b b'
  | sc, .tup es, .Tuple es' _ _ => mEs N sc es es'
  | sc, .lst es, .List es' _ => mEs N sc es es'
  | sc, .lstM es, .List es' _ => mEs N sc es es'
  | sc, .idx a b, .Subscript a' b' _ => notSlice b' && mE N sc a a' && mE N sc b b'
  | sc, .get a b, .Subscript a' b' _ => notSlice b' && mE N sc a a' && mE N sc b b'
  | sc, .slc a lo hi, .Subscript a' (.Slice lo' hi' none _) _ => mE N sc a a' && mO N sc lo lo' && mO N sc hi hi'
  | sc, .rev a, .Subscript a' (.Slice none none (some (.UnaryOp .USub (.Constant (.int j) _ _) _)) _) _ => decide (j = 1) && mE N sc a a'
  | sc, .bf b es, .Call (.Name x _) (e' :: es') [] _ => decide (x = b.name) && gloB sc x && mEs N sc es (e' :: es')
  | sc, .tupR a, .Call (.Name x _) [.Call (.Name y _) [a'] [] _] [] _ => decide (x = ("tuple" : Str)) && decide (y = ("range" : Str)) && gloB sc x && gloB sc y && mE N sc a a' && notStar a'
  | sc, .isi a t _, .Call (.Name x _) [a', .Name y _] [] _ => decide (x = ("isinstance" : Str)) && decide (y = tyName t) && gloB sc x && gloB sc y && mE N sc a a' && notStar a'
  | sc, .bm b o es, .Call (.Attribute o' m apos) es' [] pos => decide (m = b.name) && noSup o' && (apos.endLine == pos.line) && decide (es'.length < 20) && mE N sc o o' && mEs N sc es es'
  | sc, .callK x _ ks _ es, .Call (.Name y _) [] (k' :: kws') _ => decide (x = y) && gloB sc x && decide ((k' :: kws').map (·.arg) = ks.map some) && mEs N sc es ((k' :: kws').map (·.value))
  | sc, .call x _ es, .Call (.Name y _) es' [] _ => decide (x = y) && gloB sc x && mEs N sc es es'
  | sc, .mth _ o m _ es, .Call (.Attribute o' m' apos) es' [] pos => decide (m = m') && noSup o' && (apos.endLine == pos.line) && decide (es'.length < 20) && mE N sc o o' && mEs N sc es es'
  | sc, .new x _ es, .Call (.Name y _) es' [] _ => decide (x = y) && gloB sc x && mEs N sc es es'
  | sc, .fld _ o f, .Attribute o' f' _ => decide (f = f') && noSup o' && mE N sc o o'
  | sc, .prp _ o f _, .Attribute o' f' _ => decide (f = f') && noSup o' && mE N sc o o'
  | sc, .lc elt t it ifs own, .ListComp elt' [⟨t', it', ifs', as'⟩] scope' _ => decide (as' = 0) && blkC N sc scope' own && ownOk t own && mE N (relS scope' sc) elt elt' && mT N (ownCell scope') (relS scope' sc) t t' && mI N sc it it' t' && mEs N (relS scope' sc) ifs ifs' && tstOk.tstOks ifs
  | sc, .lcM elt t it ifs own, .ListComp elt' [⟨t', it', ifs', as'⟩] scope' _ => decide (as' = 0) && blkC N sc scope' own && ownOk t own && mE N (relS scope' sc) elt elt' && mT N (ownCell scope') (relS scope' sc) t t' && mI N sc it it' t' && mEs N (relS scope' sc) ifs ifs' && tstOk.tstOks ifs
  | _, .dctM, .Dict [] [] _ => true
  | sc, .gen G es, e' => plainB e' && (match G.sub sc e' with
    | some l => mEl N sc es l
    | none => false)
  | _, _, _ => false
def mEl (N : List Str) : Scope → Exs → List PySem.Expr → Bool
  | _, .nil, [] => true
  | sc, .cons e es, e' :: es' => mE N sc e e' && mEl N sc es es'
  | _, _, _ => false
def mEs (N : List Str) : Scope → Exs → List PySem.Expr → Bool
  | _, .nil, [] => true
  | sc, .cons e es, e' :: es' => notStar e' && mE N sc e e' && mEs N sc es es'
  | _, _, _ => false
def mO (N : List Str) : Scope → Exs → Option PySem.Expr → Bool
  | _, .nil, none => true
  | sc, .cons e .nil, some e' => mE N sc e e'
  | _, _, _ => false
def mT (N : List Str) : (Str → Bool) → Scope → Tgt → PySem.Expr → Bool
  | fl, sc, .name i, .Name x _ => decide (N[i]? = some x) && loc2B fl sc x
  | fl, sc, .tup ts, .Tuple ts' _ _ => mTs N fl sc ts ts'
  | _, sc, .sub o i, .Subscript o' i' _ => notSlice i' && mE N sc o o' && mE N sc i i'
  | _, sc, .put o i, .Subscript o' i' _ => notSlice i' && mE N sc o o' && mE N sc i i'
  | _, sc, .att _ o f, .Attribute o' f' _ => decide (f = f') && mE N sc o o'
  | _, _, _, _ => false
def mTs (N : List Str) : (Str → Bool) → Scope → Tgts → List PySem.Expr → Bool
  | _, _, .nil, [] => true
  | fl, sc, .cons t ts, t' :: ts' => notStar t' && mT N fl sc t t' && mTs N fl sc ts ts'
  | _, _, _, _ => false
def mI (N : List Str) : Scope → Itr → PySem.Expr → PySem.Expr → Bool
  | sc, .lst e, e', _ => notSet e' && mE N sc e e'
  | sc, .rng1 e, .Call (.Name x _) [e'] [] _, _ => decide (x = ("range" : Str)) && gloB sc x && notStar e' && mE N sc e e'
  | sc, .rng2 a b, .Call (.Name x _) [a', b'] [] _, _ => decide (x = ("range" : Str)) && gloB sc x && notStar a' && notStar b' && mE N sc a a' && mE N sc b b'
  | sc, .enumL e, .Call (.Name x _) [e'] [] _, .Tuple _ _ _ => decide (x = ("enumerate" : Str)) && gloB sc x && notStar e' && mE N sc e e'
  | sc, .gen G es, e', tg => notSet e' && (match G.sub sc e' tg with
    | some l => mEl N sc es l
    | none => false)
  | _, _, _, _ => false
end
/-- name = [..] stored within the comprehension's frame -/
def swB (sc : Scope) : PySem.Expr → PySem.Expr → Bool
  | .Name y py, .ListComp _ _ scope pos => locB sc y && (py.line == pos.line) && !(scope.names.any fun (n, k) => n == y && (k == .local || k == .cell))
  | _, _ => false
def isName : PySem.Expr → Bool
  | .Name _ _ => true
  | _ => false
def isTup : PySem.Expr → Bool
  | .Tuple _ _ _ => true
  | .List _ _ => true
  | _ => false
def swName (sc : Scope) (l : Nat) : PySem.Expr → Bool
  | .Name x p => (sc.names.lookup x == some .local) && (p.line == l)
  | _ => false
/-- the stores of this assignment are not exchanged -/
def noSwap (sc : Scope) : PySem.Expr → PySem.Expr → Bool
  | .Tuple ts _ _, .Tuple vs _ _ => (ts.all notStar) && ((decide (ts.length ≠ 2) && decide (ts.length ≠ 3)) || !(ts.all (swName sc ((ts.head?.map (·.pos.line)).getD 0))) || (vs.all notStar && vs.all (foldedForSure 8)))
  | .List _ _, .Tuple _ _ _ => false
  | .Starred _ _, _ => false
  | _, _ => true
/-- nothing is stored within a comprehension's frame -/
def swOff (sc : Scope) : PySem.Expr → PySem.Expr → Bool
  | .Name y _, e => notComp e || !(sc.names.lookup y == some .local)
  | _, _ => true
def par2B (sc : Scope) (x y : Str) (px py : Pos) (a b : PySem.Expr) : Bool :=
  locB sc x && locB sc y && (py.line == px.line) && !(x == y) && notStar a && notStar b && !([a, b].all (foldedForSure 8)) && !([a, b].all (constantsAlone 8))
def par3B (sc : Scope) (x y z : Str) (px py pz : Pos) (a b c : PySem.Expr) : Bool :=
  locB sc x && locB sc y && locB sc z && (py.line == px.line) && (pz.line == px.line) && !(x == y) && !(x == z) && !(y == z) && notStar a && notStar b && notStar c && !([a, b, c].all (foldedForSure 8)) && !([a, b, c].all (constantsAlone 8))
mutual
def mS (N : List Str) (sc : Scope) : Sm → PySem.Stmt → Bool
  | .asg t e, .Assign [t'] e' _ => mT N (fun _ => true) sc t t' && mE N sc e e' && notStar t' && noSwap sc t' e' && (swOff sc t' e' || swB sc t' e')
  | .par2 i j a b, .Assign [.Tuple [.Name x px, .Name y py] _ _] (.Tuple [a', b'] _ _) _ => decide (i ≠ j) && decide (N[i]? = some x) && decide (N[j]? = some y) && par2B sc x y px py a' b' && mE N sc a a' && mE N sc b b'
  | .par3 i j k a b c, .Assign [.Tuple [.Name x px, .Name y py, .Name z pz] _ _] (.Tuple [a', b', c'] _ _) _ => decide (i ≠ j) && decide (i ≠ k) && decide (j ≠ k) && decide (N[i]? = some x) && decide (N[j]? = some y) && decide (N[k]? = some z) &&
      par3B sc x y z px py pz a' b' c' && mE N sc a a' && mE N sc b b' && mE N sc c c'
  | .aug i op e, .AugAssign (.Name x _) op' e' _ => decide (N[i]? = some x) && locB sc x && decide (op = op') && mE N sc e e'
  | .ret e, .Return (some e') _ => mE N sc e e'
  | .retN, .Return none _ => true
  | .ite c a b, .If c' a' b' _ => tstOk c && mE N sc c c' && mSs N sc a a' && mSs N sc b b'
  | .loop t it body, .For t' it' body' [] _ => mT N (fun _ => true) sc t t' && mI N sc it it' t' && mSs N sc body body'
  | .whl c body, .While c' body' [] _ => tstOk c && mE N sc c c' && mSs N sc body body'
  | .exp e, .Expr e' _ => mE N sc e e' && notComp e'
  | .pass, .Pass _ => true
  | .brk, .Break _ => true
  | .cnt, .Continue _ => true
  | .never, _ => true
  | .doc, .Expr (.Constant (.str _) _ _) _ => true
  | .loopE _ i f, .For _ (.Call (.Attribute (.Attribute (.Name x _) f' _) v apos) [] [] pos) _ [] _ => decide (N[i]? = some x) && visB sc x && !(x == ("__debug__" : Str)) && !(x == ("__classdict__" : Str)) && decide (f = f') && decide (v = ("values" : Str)) && (apos.endLine == pos.line)
  | .loopD _ i f kd t body, .For t' (.Call (.Attribute (.Attribute (.Name x _) f' _) v apos) [] [] pos) body' [] _ => decide (N[i]? = some x) && visB sc x && !(x == ("__debug__" : Str)) && !(x == ("__classdict__" : Str)) && decide (f = f') && decide (v = (if kd = true then "items" else "values" : Str)) && (apos.endLine == pos.line) && (!kd || isTupT t') && mT N (fun _ => true) sc t t' && mSs N sc body body'
  | .rse c es, .Raise (some (.Call (.Name x _) es' [] _)) none _ => decide (c = x) && gloB sc x && mEs N sc es es'
  | _, _ => false
def mSs (N : List Str) (sc : Scope) : List Sm → List PySem.Stmt → Bool
  | [], [] => true
  | s :: ss, s' :: ss' => mS N sc s s' && mSs N sc ss ss'
  | _, _ => false
end
end ME
set_option Elab.async false
set_option linter.all false
set_option maxRecDepth 100000
set_option maxHeartbeats 4000000
namespace ME
open PySem PySem.Spec PyProof.Rows L2
/-! ### a def's promise where nothing is being shown as text around it -/
structure FnG (P : Program) (w : World) (K : PySem.W.Frag) (mg : Str → Option Value) (base : Heap) (k : Nat) (f : Addr) (fd : FuncData) (ps : List Str) (sp : Sp) : Prop where
  len : ∀ vs H Q E, sp vs H Q E → vs.length = ps.length
  run : ∀ (A : Around) (outer : List PySem.Env) (s : Shared) (H : Hp) (args : Args) (us : List Value) (vs : List V) (Q : VK) (E : XK), Room k A → A.guards = some [] →
    Env0 P w K mg base A outer s H → BindsTo s fd args (ps.zip us) → Vals vs us → sp vs H Q E → codeAny (model P w) A (.call (.ref f) args) (L2.CR (L2.CX P w) outer P w H s Q E) s
section
variable {P : Program} {w : World} {K : PySem.W.Frag} {mg : Str → Option Value} {base : Heap} {k : Nat} {f : Addr} {fd : FuncData} {ps N : List Str} {sp sp' : Sp}
theorem FnG.mono {j : Nat} (F : FnG P w K mg base j f fd ps sp) (h : j ≤ k) : FnG P w K mg base k f fd ps sp :=
  ⟨F.len, fun A outer s H args us vs Q E hr => F.run A outer s H args us vs Q E (hr.mono h)⟩
theorem FnG.imp (F : FnG P w K mg base k f fd ps sp) (h : ∀ vs H Q E, sp' vs H Q E → sp vs H Q E) : FnG P w K mg base k f fd ps sp' :=
  ⟨fun vs H Q E q => F.len vs H Q E (h _ _ _ _ q), fun A outer s H args us vs Q E hr hg he hb hv hs => F.run A outer s H args us vs Q E hr hg he hb hv (h _ _ _ _ hs)⟩
/-- a def by its body -/
theorem fnG_of {name qual : Str} {params : Arguments} {body : List Stmt} {scope : Scope} {dvs : List V} {kws : List (Str × V)} (F : FunD K name qual params body scope dvs kws f fd) (S : FnScope N ps scope)
    (len : ∀ vs H Q E, sp vs H Q E → vs.length = ps.length)
    (hb : ∀ (cd : Value) (A : Around) (outer : List PySem.Env) (s : Shared) (H : Hp) (vs : List V) (Q : VK) (E : XK), Room k (A.deeper (envOfC qual scope s.heap.objs.size f cd)) → A.guards = some [] → sp vs H Q E →
      ∃ t, PSs (cxOf (L2.CX P w) P w K mg base N qual scope f cd A outer s H E) body t ∧ t { nx := fun _ H' => Q .non H', rt := Q } (start N vs) H) :
    FnG P w K mg base (k + 1) f fd ps sp := by
  obtain ⟨oc, od, dV, kV, doc, pm, an, cd, ct, osl, rfl, look, hcd, _, _⟩ := F.ex
  constructor
  · exact len
  · intro A outer s H args us vs Q E room gd e0 bind rel hsp
    have stays : ∀ b o, base.get? b = some o → s.heap.get? b = some o := fun b o e => (e0.bs b o e).1
    have inK : K.In s.heap := e0.mod.kin.keeps stays
    have nolim : s.heap.NoLimit := e0.mod.nolimit.keeps stays
    have kinds : ∀ y ∈ ps.zip us, scope.names.lookup y.1 = some .local ∨ (scope.names.lookup y.1 = some .cell ∧ ((cellsFrom (s.heap.objs.size + 1) scope.names []).lookup y.1).isSome = true) := by
      rintro ⟨n, v⟩ hy
      have hn : n ∈ ps := (List.of_mem_zip hy).1
      cases S.par n hn with
      | inl q => exact .inl q
      | inr q => exact .inr ⟨q, PySem.W.cellsFrom_some _ _ _ (.inl q)⟩
    refine codeAny_call_function room.depth (inK _ _ look) rfl S.co S.gen rfl (PySem.W.codeRec_of inK hcd) (bind _ _ _ _ ?_)
    refine wpAny_newFunctionEnv_cells S.kind kinds fun env he s1 x => ?_
    cases he
    refine ⟨nolim.keeps x.toInCall.keep, codeAny_func ?_⟩
    obtain ⟨t, run, start⟩ := hb cd A outer s H vs Q E (room.deeper _) gd hsp
    have inv := inv_start (CX := L2.CX P w) (E := E) S room.hd e0 (len _ _ _ _ hsp) rel x
    refine wpAny_mono (run.run [] s1 _ H _ inv start) (fun fl s' hs => ?_) (fun e s' hs => hs)
    cases fl with
    | ret u => obtain ⟨v, σ', H', J, rv, q⟩ := hs; exact ⟨v, H', J.os, J.bare, J.base, J.hok, rv, q⟩
    | next => obtain ⟨σ', H', J, q⟩ := hs; exact ⟨V.non, H', J.os, J.bare, J.base, J.hok, rfl, q⟩
    | brk => obtain ⟨_, _, _, q⟩ := hs; exact q.elim
    | cont => obtain ⟨_, _, _, q⟩ := hs; exact q.elim
end
/-- what a body must know of what stands around it -/
structure Gw where
  P : Program
  w : World
  K : PySem.W.Frag
  mg : Str → Option Value
  base : Heap
  A : Around
abbrev gw (X : Cx) : Gw := ⟨X.prog, X.w, X.K, X.mg, X.base, X.A⟩
section
variable {X : Cx} {k : Nat} {f C : Addr} {fd : FuncData} {ps : List Str} {sp : Sp} {W : WX}
/-- the promise of a call, an error's way out by W at the slots σ -/
theorem callG (F : FnG X.prog X.w X.K X.mg X.base k f fd ps sp) (hr : Room k X.A) (hg : X.A.guards = some []) {dvs : List V} {ds : List Value} (hb : Binds X.K fd ps ds) (hd : Vals dvs ds) (tk : Takes X W) {pins : List (Addr × Obj)} {σ : L2.St} {H : Hp} {s : Shared} {Q : VK} {us : List Value} {vs : List V}
    (I : Inv X pins σ H s) (r0 : Vals vs us) (h : sp (vs ++ dvs) H Q (fun c d H' => W c d σ H')) : wpAny (model X.prog X.w) X.A (call (.ref f) us) (EP X pins σ Q) X.xe s := by
  have r := r0.append hd
  have hl : (us ++ ds).length = ps.length := by rw [← r.length]; exact F.len _ _ _ _ h
  have hb' := hb s us I.kIn hl
  refine wpAny_call (codeAny_mono (F.run X.A X.stack s H ⟨us, []⟩ (us ++ ds) (vs ++ dvs) Q _ hr hg I.env0 hb' r h) fun x s' hq => ?_)
  match x, hq with
  | .error e, hq => exact tk e s' (XE.of_call I (fun c d H' q => q) hq)
  | .ok (.ret u), hq => exact I.after hq
  | .ok .next, hq => exact (show False from hq).elim
  | .ok .brk, hq => exact (show False from hq).elim
  | .ok .cont, hq => exact (show False from hq).elim
theorem makeG (M : Mk X.K C f) (F : FnG X.prog X.w X.K X.mg X.base k f fd ps sp) (hr : Room (k + 1) X.A) (hg : X.A.guards = some []) {dvs : List V} {ds : List Value} (hb : Binds X.K fd ps ds) (hd : Vals dvs ds) (tk : Takes X W) {pins : List (Addr × Obj)} {σ : L2.St} {H : Hp} {s : Shared} {Q : VK} {us : List Value} {vs : List V}
    (I : Inv X pins σ H s) (r : Vals vs us) (h : ∀ x dx, H x = none → H dx = none → dx ≠ x → sp (.ref x :: (vs ++ dvs)) (upd (upd H dx (.own x)) x (.ins C dx [])) (fun v H2 => v = .non ∧ Q (.ref x) H2) (fun c d H' => W c d σ H')) :
    wpAny (model X.prog X.w) X.A (call (.ref C) us) (EP X pins σ Q) X.xe s := by
  have hq := h (s.heap.objs.size + 1) s.heap.objs.size (I.hok.fresh (Nat.le_succ _)) (I.hok.fresh (Nat.le_refl _)) (Nat.ne_of_lt (Nat.lt_succ_self _))
  have I2 := Inv.made (C := C) I
  have r2 : Vals (V.ref (s.heap.objs.size + 1) :: (vs ++ dvs)) (Value.ref (s.heap.objs.size + 1) :: (us ++ ds)) := .cons rfl (r.append hd)
  have hl : (Value.ref (s.heap.objs.size + 1) :: us ++ ds).length = ps.length := by
    rw [show Value.ref (s.heap.objs.size + 1) :: us ++ ds = Value.ref (s.heap.objs.size + 1) :: (us ++ ds) from rfl, ← r2.length]; exact F.len _ _ _ _ hq
  have hb' := hb _ (Value.ref (s.heap.objs.size + 1) :: us) I2.kIn hl
  have gd : (X.A.under (.builtin "type.__call__" ⟨.ref C :: us, []⟩)).guards = some [] := by
    rw [show (X.A.under (.builtin "type.__call__" ⟨.ref C :: us, []⟩)).guards = X.A.guards from by
      first | rfl | simp [Around.under, Code.guards, Code.isGuard, guardIds, pushGuards]]
    exact hg
  refine wpAny_call (make_map (f := f) I.kIn M.makes M.init (beq_iff_eq.mp M.fn) (codeAny_mono (F.run _ X.stack _ _ ⟨Value.ref (s.heap.objs.size + 1) :: us, []⟩ (Value.ref (s.heap.objs.size + 1) :: (us ++ ds)) _ _ _ (hr.make C us []) gd
    (I2.env0.make C us []) hb' r2 hq) fun x s' hx => ?_))
  match x, hx with
  | .error e, hx => exact tk e s' (XE.of_call I2 (fun c d H' q => q) hx)
  | .ok (.ret u), hx =>
    obtain ⟨v, H', I3, rv, ev, q3⟩ := I2.after hx
    subst ev
    exact ⟨rv, ⟨V.ref (s.heap.objs.size + 1), H', I3, rfl, q3⟩⟩
  | .ok .next, hx => exact (show False from hx).elim
  | .ok .brk, hx => exact (show False from hx).elim
  | .ok .cont, hx => exact (show False from hx).elim
theorem propG {p : Addr} {fn : Str} {b : Bool} {a dx : Addr} {fs : List (Str × V)} (c : Cls X.K C) (hp : PropOf X.K C fn p f) (F : FnG X.prog X.w X.K X.mg X.base k f fd ps sp) (hr : Room (k + 1) X.A) (hg : X.A.guards = some []) (hb : Binds X.K fd ps [])
    {pins : List (Addr × Obj)} {σ : L2.St} {H : Hp} {s : Shared} {Q : VK} {E' : Value → Shared → Prop} (I : Inv X pins σ H s) (ea : H a = some (.ins C dx fs)) (h : sp [.ref a] H Q E0) :
    wpAny (model X.prog X.w) X.A (getAttr (.ref a) fn b) (EP X pins σ Q) E' s := by
  obtain ⟨mA, O, _, _, _, _⟩ := ins_get I.hok ea
  obtain ⟨od, J, _⟩ := O.look
  obtain ⟨rest, hrec⟩ := hp.rec_
  have I1 := I.tok (s.toks + 1)
  have hl : ([Value.ref a] ++ []).length = ps.length := by rw [← F.len _ _ _ _ h]; rfl
  have hc : (PySem.W.clsIn X.K C).isSome = true := by
    obtain ⟨cd, hc, _⟩ := PySem.W.any_some c.hd
    rw [hc]
    rfl
  have hpl := PySem.W.plainGet_of (c.get fn)
  have hb' := hb { s with toks := s.toks + 1 } [.ref a] I1.kIn hl
  refine PySem.W.get_bind I.kIn J hpl.1 (PySem.W.findObj_data hc hp.at_ hp.get hp.tak) hpl.2 (wpAny_call (PySem.W.prop_get (s := { s with toks := s.toks + 1 }) I.kIn hrec ?_))
  refine codeAny_mono (F.run X.A.in1 X.stack { s with toks := s.toks + 1 } H ⟨[.ref a], []⟩ [.ref a] [.ref a] Q E0 hr.in1 hg I1.env0.in1 hb' (.cons rfl .nil) h) fun x s' hx => ?_
  match x, hx with
  | .error e, hx =>
    obtain ⟨_, _, _, _, _, _, _, _, _, _, _, _, z⟩ := hx
    exact z.elim
  | .ok (.ret u), hx =>
    obtain ⟨v, H', I3, rv, q3⟩ := I1.after hx
    show wpAny _ _ (handedOut u) _ _ _
    rw [PySem.W.handedOut_of (handed_of rv)]
    exact wpAny_pure ⟨v, H', I3, rv, q3⟩
  | .ok .next, hx => exact (show False from hx).elim
  | .ok .brk, hx => exact (show False from hx).elim
  | .ok .cont, hx => exact (show False from hx).elim
end
/-! ### the promises of our functions -/
def spS (K : PySem.W.Frag) (n : Nat) (F : Fn) : Sp := fun vs H Q E => ∃ Z r m ds, ds.length = n ∧ SR K Z r H m ∧ VRs K Z r H ds vs ∧ GE K Z r H (F ds m) Q E
theorem spS_len {K : PySem.W.Frag} {n : Nat} {F : Fn} {vs : List V} {H : Hp} {Q : VK} {E : XK} (h : spS K n F vs H Q E) : vs.length = n := by
  obtain ⟨Z, r, m, ds, hn, hs, hd, g⟩ := h
  rw [hd.length, hn]
structure FnAt0 (g : Gw) (f : Addr) (F : Fn) : Prop where
  ex : ∃ fd ps n k, FnG g.P g.w g.K g.mg g.base k f fd ps (spS g.K n F) ∧ Room (k + 1) g.A ∧ Binds g.K fd ps [] ∧ ∀ ds m, ds.length ≠ n → F ds m = .stuck
/-- .. where the defaults dd fill up -/
structure FnAt (g : Gw) (f : Addr) (F : Fn) : Prop where
  ex : ∃ fd ps n k F0 dd dvs ds, FnG g.P g.w g.K g.mg g.base k f fd ps (spS g.K n F0) ∧ Room (k + 1) g.A ∧ Binds g.K fd ps ds ∧ Vals dvs ds ∧ (∀ Z r H, VRs g.K Z r H dd dvs) ∧ (∀ es m, F es m = F0 (es ++ dd) m) ∧ ∀ ds m, ds.length ≠ n → F0 ds m = .stuck
def CallKOk (g : Gw) (x : Str) (F : Fn) (ks : List Str) (perm : List Nat) : Prop := ∃ f fd ps n k, g.mg x = some (.ref f) ∧ PySem.W.keepIn g.K (.ref f) = true ∧ FnG g.P g.w g.K g.mg g.base k f fd ps (spS g.K n F) ∧ Room (k + 1) g.A ∧
  (∀ i ∈ perm, i < ks.length) ∧ (∀ (s : Shared) (ws : List Value), ws.length = ks.length → BindsTo s fd ⟨[], ks.zip ws⟩ (ps.zip (pick perm ws))) ∧ ∀ ds m, ds.length ≠ n → F ds m = .stuck
def CallOk (g : Gw) (x : Str) (F : Fn) : Prop := ∃ f, g.mg x = some (.ref f) ∧ PySem.W.keepIn g.K (.ref f) = true ∧ FnAt g f F
def MthOk (g : Gw) (c m : Str) (F : Fn) : Prop := ∃ f, Cls g.K (He.ga g.K c) ∧ Meth g.K (He.ga g.K c) m f ∧ FnAt g f F
def PrpOk (g : Gw) (c m : Str) (F : Fn) : Prop := ∃ p f, Cls g.K (He.ga g.K c) ∧ PropOf g.K (He.ga g.K c) m p f ∧ FnAt0 g f F ∧ ∀ ds s c' es s', F ds s ≠ .exc c' es s'
def NewOk (g : Gw) (c : Str) (F : Fn) : Prop := ∃ f, g.mg c = some (.ref (He.ga g.K c)) ∧ Mk g.K (He.ga g.K c) f ∧ FnAt g f F
def FldOk (g : Gw) (c f : Str) : Prop := Cls g.K (He.ga g.K c) ∧ NoAttr g.K (He.ga g.K c) f
def GloOk (g : Gw) (x : Str) (d : D) : Prop := d.flat = true ∧ ∃ v u, g.mg x = some u ∧ RelV v u ∧ ∀ Z r H, VR g.K Z r H d v
structure InsTy (K : PySem.W.Frag) (C : Addr) : Prop where
  cl : Cls K C
  ha : PySem.W.findIn K (.ref C) "__class__" = some (some (.builtin "object.__class__"))
  hn : PySem.W.specialIn K (.builtin "object.__class__") "__get__" = some (some (.builtin "getset_descriptor.__get__"))
  htk : PySem.W.takesIn K (.builtin "object.__class__") = some true
  hm : PySem.W.mroIn K C (.type "object") = some true
def IsiOk (g : Gw) (t : Ty) (cs : List Str) : Prop := g.mg "isinstance" = none ∧ match t with
  | .bi n => g.mg (Str.ofString n) = none ∧ bootBuiltins (Str.ofString n) = some (.type n) ∧ ∀ c ∈ cs, InsTy g.K (He.ga g.K c) ∧ PySem.W.kitOne g.K (.ref (He.ga g.K c)) (.type n) = some false
  | .own c0 => g.mg c0 = some (.ref (He.ga g.K c0)) ∧ (∀ u ∈ (["NoneType", "bool", "int", "str", "tuple", "list", "dict"] : List String), PySem.W.kitOne g.K (.type u) (.ref (He.ga g.K c0)) = some false) ∧
      ∀ c ∈ cs, InsTy g.K (He.ga g.K c) ∧ PySem.W.kitOne g.K (.ref (He.ga g.K c)) (.ref (He.ga g.K c0)) = some (decide (c = c0))
end ME
set_option Elab.async false
set_option linter.all false
set_option maxRecDepth 100000
set_option maxHeartbeats 4000000
namespace ME
open PySem PySem.Spec PyProof.Rows L2
/-! ### the slots and the cells at a point of a def's body -/
structure RS (K : PySem.W.Frag) (Z : PZ) (r : List Addr) (H : Hp) (σ : L2.St) (δ : Env) (m : Sto) : Prop where
  len : σ.length = δ.length
  vs : ∀ (i : Nat) d, δ[i]? = some (some d) → ∃ v, σ[i]? = some (some v) ∧ VR K Z r H d v
  sr : SR K Z r H m
section
variable {K : PySem.W.Frag} {Z Z2 : PZ} {r r' : List Addr} {H H' : Hp} {σ : L2.St} {δ : Env} {m m' : Sto}
theorem RS.ext (R : RS K Z r H σ δ m) (e : Ext r H r' H') (s : SR K Z r' H' m') : RS K Z r' H' σ δ m' :=
  ⟨R.len, fun i d h => let ⟨v, h1, h2⟩ := R.vs i d h; ⟨v, h1, h2.ext e⟩, s⟩
theorem RS.set (R : RS K Z r H σ δ m) {i : Nat} {d : D} {v : V} (h : VR K Z r H d v) : RS K Z r H (σ.set i (some v)) (δ.set i (some d)) m := by
  refine ⟨by rw [List.length_set, List.length_set]; exact R.len, fun j e hj => ?_, R.sr⟩
  by_cases hij : i = j
  · subst hij
    have hl : i < δ.length := by
      have := (List.getElem?_eq_some_iff.mp hj).1
      rwa [List.length_set] at this
    rw [List.getElem?_set_self hl] at hj
    cases hj
    exact ⟨v, by rw [List.getElem?_set_self (by rw [R.len]; exact hl)], h⟩
  · rw [List.getElem?_set_ne hij] at hj ⊢
    exact R.vs j e hj
theorem RS.wipe (R : RS K Z r H σ δ m) : ∀ vs : List Nat, RS K Z r H (wipe σ vs) (wipeE δ vs) m
  | [] => R
  | v :: vs => by
    have q := RS.wipe R vs
    refine ⟨by show ((L2.wipe σ vs).set v none).length = ((wipeE δ vs).set v none).length; rw [List.length_set, List.length_set]; exact q.len, fun j e hj => ?_, R.sr⟩
    have hj : ((wipeE δ vs).set v none)[j]? = some (some e) := hj
    by_cases hij : v = j
    · subst hij
      by_cases hl : v < (wipeE δ vs).length
      · rw [List.getElem?_set_self hl] at hj; cases hj
      · rw [List.getElem?_eq_none (by rw [List.length_set]; omega)] at hj; cases hj
    · rw [List.getElem?_set_ne hij] at hj
      obtain ⟨x, h1, h2⟩ := q.vs j e hj
      refine ⟨x, ?_, h2⟩
      show ((L2.wipe σ vs).set v none)[j]? = some (some x)
      rw [List.getElem?_set_ne hij]
      exact h1
/- less is held -/
mutual
theorem VR.subZ (l : ∀ a, Held Z2 r a → Held Z r a) : ∀ (d : D) {v : V}, VR K Z r H d v → VR K Z2 r H d v
  | .non, v, h => by simpa [VR] using h
  | .bl b, v, h => by simpa [VR] using h
  | .int i, v, h => by simpa [VR] using h
  | .str x, v, h => by simpa [VR] using h
  | .tup ds, v, h => by
    rw [VR] at h ⊢
    obtain ⟨a, xs, ev, ht, hs⟩ := h
    exact ⟨a, xs, ev, ht.elim (fun z => .inl ⟨z.1, fun q => z.2 (l a q)⟩) .inr, VRs.subZ l ds hs⟩
  | .lst ds, v, h => by
    rw [VR] at h ⊢
    obtain ⟨a, xs, ev, ht, hs⟩ := h
    exact ⟨a, xs, ev, ⟨ht.1, fun q => ht.2 (l a q)⟩, VRs.subZ l ds hs⟩
  | .rol ds, v, h => by
    rw [VR] at h ⊢
    obtain ⟨a, xs, ev, ht, hs⟩ := h
    exact ⟨a, xs, ev, ht.elim (fun z => .inl ⟨z.1, fun q => z.2 (l a q)⟩) .inr, VRs.subZ l ds hs⟩
  | .obj cl ns fs, v, h => by
    rw [VR] at h ⊢
    obtain ⟨a, dx, xs, ev, ht, hn, hl, hs⟩ := h
    exact ⟨a, dx, xs, ev, ht, fun q => hn (l a q), hl, VRs.subZ l fs hs⟩
  | .dct ks fs, v, h => by
    rw [VR] at h ⊢
    obtain ⟨a, xs, ev, ht, hn, hl, hs⟩ := h
    exact ⟨a, xs, ev, ht, fun q => hn (l a q), hl, VRs.subZ l fs hs⟩
  | .ref n, v, h => by rw [VR] at h ⊢; exact h
theorem VRs.subZ (l : ∀ a, Held Z2 r a → Held Z r a) : ∀ (ds : List D) {xs : List V}, VRs K Z r H ds xs → VRs K Z2 r H ds xs
  | [], xs, h => by simpa [VRs] using h
  | d :: ds, xs, h => by
    rw [VRs] at h ⊢
    obtain ⟨x, t, ev, h1, h2⟩ := h
    exact ⟨x, t, ev, VR.subZ l d h1, VRs.subZ l ds h2⟩
end
/- more is held, of what does not stand yet -/
mutual
theorem VR.addZ (l : ∀ a, Z2 a → Z a ∨ H a = none) : ∀ (d : D) {v : V}, VR K Z r H d v → VR K Z2 r H d v
  | .non, v, h => by simpa [VR] using h
  | .bl b, v, h => by simpa [VR] using h
  | .int i, v, h => by simpa [VR] using h
  | .str x, v, h => by simpa [VR] using h
  | .tup ds, v, h => by
    rw [VR] at h ⊢
    obtain ⟨a, xs, ev, ht, hs⟩ := h
    refine ⟨a, xs, ev, ht.elim (fun z => .inl ⟨z.1, fun q => ?_⟩) .inr, VRs.addZ l ds hs⟩
    rcases q with q | q
    · rcases l a q with q | q
      · exact z.2 (.inl q)
      · rcases z.1 with y | ⟨o, y⟩ <;> (rw [q] at y; cases y)
    · exact z.2 (.inr q)
  | .lst ds, v, h => by
    rw [VR] at h ⊢
    obtain ⟨a, xs, ev, ht, hs⟩ := h
    refine ⟨a, xs, ev, ⟨ht.1, fun q => ?_⟩, VRs.addZ l ds hs⟩
    rcases q with q | q
    · rcases l a q with q | q
      · exact ht.2 (.inl q)
      · have y := ht.1
        rw [q] at y; cases y
    · exact ht.2 (.inr q)
  | .rol ds, v, h => by
    rw [VR] at h ⊢
    obtain ⟨a, xs, ev, ht, hs⟩ := h
    refine ⟨a, xs, ev, ht.elim (fun z => .inl ⟨z.1, fun q => ?_⟩) .inr, VRs.addZ l ds hs⟩
    rcases q with q | q
    · rcases l a q with q | q
      · exact z.2 (.inl q)
      · rcases z.1 with y | ⟨o, y⟩ <;> (rw [q] at y; cases y)
    · exact z.2 (.inr q)
  | .obj cl ns fs, v, h => by
    rw [VR] at h ⊢
    obtain ⟨a, dx, xs, ev, ht, hn, hl, hs⟩ := h
    refine ⟨a, dx, xs, ev, ht, fun q => ?_, hl, VRs.addZ l fs hs⟩
    rcases q with q | q
    · rcases l a q with q | q
      · exact hn (.inl q)
      · rw [q] at ht; cases ht
    · exact hn (.inr q)
  | .dct ks fs, v, h => by
    rw [VR] at h ⊢
    obtain ⟨a, xs, ev, ht, hn, hl, hs⟩ := h
    refine ⟨a, xs, ev, ht, fun q => ?_, hl, VRs.addZ l fs hs⟩
    rcases q with q | q
    · rcases l a q with q | q
      · exact hn (.inl q)
      · rw [q] at ht; cases ht
    · exact hn (.inr q)
  | .ref n, v, h => by rw [VR] at h ⊢; exact h
theorem VRs.addZ (l : ∀ a, Z2 a → Z a ∨ H a = none) : ∀ (ds : List D) {xs : List V}, VRs K Z r H ds xs → VRs K Z2 r H ds xs
  | [], xs, h => by simpa [VRs] using h
  | d :: ds, xs, h => by
    rw [VRs] at h ⊢
    obtain ⟨x, t, ev, h1, h2⟩ := h
    exact ⟨x, t, ev, VR.addZ l d h1, VRs.addZ l ds h2⟩
end
theorem CR.mapZ {c : Cell} {a : Addr} (f : ∀ ds xs, VRs K Z r H ds xs → VRs K Z2 r H ds xs) (h : CR K Z r H c a) : CR K Z2 r H c a := by
  cases c with
  | lst ds => obtain ⟨xs, e, hs⟩ := h; exact ⟨xs, e, f _ _ hs⟩
  | dct ks ds => obtain ⟨xs, e, hl, hs⟩ := h; exact ⟨xs, e, hl, f _ _ hs⟩
  | ins c ns fs => obtain ⟨dx, xs, e, hl, hs⟩ := h; exact ⟨dx, xs, e, hl, f _ _ hs⟩
  | lok ks ds => obtain ⟨o, xs, e, hl, hs⟩ := h; exact ⟨o, xs, e, hl, f _ _ hs⟩
theorem SR.mapZ (f : ∀ ds xs, VRs K Z r H ds xs → VRs K Z2 r H ds xs) (s : SR K Z r H m) (zt : ∀ a, Z2 a → H a ≠ none) (zr : ∀ a ∈ r, ¬ Z2 a) : SR K Z2 r H m :=
  ⟨s.len, s.nd, fun n c a e1 e2 => (s.cells n c a e1 e2).mapZ f, zt, zr⟩
end
/-- a body's point: the text's names, what is wished of errors -/
structure SX (X : Cx) (W : WX) (N : List Str) (sc : Scope) : Prop where
  hN : X.N = N
  nd : N.Nodup
  hs : X.env.scope = sc
  tk : Takes X W
  calm : X.calm = true
  hu : X.A.units + 70 < cLine
  gd : X.A.guards = some []
abbrev EW (W : WX) (σ : L2.St) : XK := fun c d H' => W c d σ H'
/-! ### readings by our own functions -/
def tE (K : PySem.W.Frag) (W : WX) (f : Env → Sto → Res D) : TE := fun σ H Q => ∃ Z r δ m, RS K Z r H σ δ m ∧ GE K Z r H (f δ m) Q (EW W σ)
def tA (K : PySem.W.Frag) (W : WX) (f : Env → Sto → Res (List D)) : TA := fun σ H Q => ∃ Z r δ m, RS K Z r H σ δ m ∧ GA K Z r H (f δ m) Q (EW W σ)
def tT (K : PySem.W.Frag) (W : WX) (f : Env → Sto → Res Bool) : TT := fun σ H Q => ∃ Z r δ m, RS K Z r H σ δ m ∧ GB K Z r H (f δ m) Q (EW W σ)
theorem _root_.L2.PE.imp {X : Cx} {e : Expr} {t t' : TE} (h : PE X e t) (i : ∀ σ H Q, t' σ H Q → t σ H Q) : PE X e t' := ⟨fun pins s σ H Q I q => h.run pins s σ H Q I (i σ H Q q)⟩
theorem _root_.L2.PT.imp {X : Cx} {e : Expr} {t t' : TT} (h : PT X e t) (i : ∀ σ H Q, t' σ H Q → t σ H Q) : PT X e t' := ⟨fun pins s σ H Q I q => h.run pins s σ H Q I (i σ H Q q)⟩
theorem _root_.L2.PW.imp {X : Cx} {e : Expr} {t t' : TT} (h : PW X e t) (i : ∀ σ H Q, t' σ H Q → t σ H Q) : PW X e t' := ⟨fun wh pins s σ H Q I q => h.run wh pins s σ H Q I (i σ H Q q)⟩
theorem _root_.L2.PA.imp {X : Cx} {e : List Expr} {t t' : TA} (h : PA X e t) (i : ∀ σ H Q, t' σ H Q → t σ H Q) : PA X e t' := ⟨fun pos pins s σ H Q I q => h.run pos pins s σ H Q I (i σ H Q q)⟩
theorem _root_.L2.PS.imp {X : Cx} {e : Stmt} {t t' : TS} (h : PS X e t) (i : ∀ D σ H, t' D σ H → t D σ H) : PS X e t' := ⟨fun pins s σ H D I q => h.run pins s σ H D I (i D σ H q)⟩
theorem _root_.L2.PSs.imp {X : Cx} {e : List Stmt} {t t' : TS} (h : PSs X e t) (i : ∀ D σ H, t' D σ H → t D σ H) : PSs X e t' := ⟨fun pins s σ H D I q => h.run pins s σ H D I (i D σ H q)⟩
section
variable {K : PySem.W.Frag} {Z : PZ} {r : List Addr} {H : Hp} {E : XK}
theorem GA.mono {x : Res (List D)} {Q Q' : List V → Hp → Prop} (g : GA K Z r H x Q E) (h : ∀ v H', Q v H' → Q' v H') : GA K Z r H x Q' E := by
  cases x with
  | ok d m => exact fun v H2 r2 e2 s q => h _ _ (g v H2 r2 e2 s q)
  | exc c es m => exact g
  | stuck => exact g
theorem GB.mono {x : Res Bool} {Q Q' : Bool → Hp → Prop} (g : GB K Z r H x Q E) (h : ∀ v H', Q v H' → Q' v H') : GB K Z r H x Q' E := by
  cases x with
  | ok d m => exact fun H2 r2 e2 s => h _ _ (g H2 r2 e2 s)
  | exc c es m => exact g
  | stuck => exact g
/-- one expression, then f of its value -/
theorem tE_step {W : WX} {f : Env → Sto → Res D} {g : D → Sto → Res D} {σ : L2.St} {H : Hp} {Q : VK} {R : V → Hp → Prop} (h : tE K W (fun d m => (f d m).bind g) σ H Q)
    (k : ∀ Z r δ m d v H1, RS K Z r H1 σ δ m → VR K Z r H1 d v → GE K Z r H1 (g d m) Q (EW W σ) → R v H1) : tE K W f σ H R := by
  obtain ⟨Z, r, δ, m, rs, g0⟩ := h
  refine ⟨Z, r, δ, m, rs, g0.bind.mono fun v H1 ⟨r1, d, m1, e1, s1, h1, _, g1⟩ => ?_⟩
  exact k Z r1 δ m1 d v H1 (rs.ext e1 s1) h1 g1
theorem tA_step {W : WX} {f : Env → Sto → Res (List D)} {g : List D → Sto → Res D} {σ : L2.St} {H : Hp} {Q : VK} {R : List V → Hp → Prop} (h : tE K W (fun d m => (f d m).bind g) σ H Q)
    (k : ∀ Z r δ m ds vs H1, RS K Z r H1 σ δ m → VRs K Z r H1 ds vs → GE K Z r H1 (g ds m) Q (EW W σ) → R vs H1) : tA K W f σ H R := by
  obtain ⟨Z, r, δ, m, rs, g0⟩ := h
  refine ⟨Z, r, δ, m, rs, g0.bindA.mono fun v H1 ⟨r1, d, m1, e1, s1, h1, _, g1⟩ => ?_⟩
  exact k Z r1 δ m1 d v H1 (rs.ext e1 s1) h1 g1
/-- two expressions, by an operator's rule -/
theorem tE_two {W : WX} {fa fb : Env → Sto → Res D} {g : D → D → Sto → Res D} {rd : R2} {σ : L2.St} {H : Hp} {Q : VK} (h : tE K W (fun d m => (fa d m).bind fun x m1 => (fb d m1).bind fun y m2 => g x y m2) σ H Q)
    (k : ∀ x y H2 Q', rB K g x y H2 Q' → rd x y H2 Q') : tOp rd (tE K W fa) (tE K W fb) σ H Q := by
  obtain ⟨Z, r, δ, m, rs, g0⟩ := h
  refine ⟨Z, r, δ, m, rs, g0.bind.mono fun v H1 ⟨r1, d, m1, e1, s1, h1, _, g1⟩ => ?_⟩
  refine ⟨Z, r1, δ, m1, rs.ext e1 s1, g1.bind.mono fun u H2 ⟨r2, e, m2, e2, s2, h2, _, g2⟩ => ?_⟩
  exact k _ _ _ _ ⟨Z, r2, m2, d, e, _, s2, h1.ext e2, h2, g2⟩
theorem truth_TruV {m : Sto} (s : SR K Z r H m) {d : D} {v : V} {b : Bool} (h : VR K Z r H d v) (e : truth m d = some b) : TruV K v H b := by
  have key : ∀ ds, seqOf m d = some ds → (!ds.isEmpty) = b → TruV K v H b := by
    intro ds e1 e2
    obtain ⟨a, xs, rfl, hq, hx⟩ := s.seq h e1
    have e3 : (!xs.isEmpty) = b := by
      rw [← e2]
      have := hx.length
      cases ds <;> cases xs <;> first | rfl | simp at this
    rcases hq with hq | hq
    · exact .inl ⟨xs, hq, e3.symm⟩
    · exact .inr (.inl ⟨xs, hq, e3.symm⟩)
  cases d with
  | non => cases e; rw [h.non_inv]; rfl
  | bl b => cases e; rw [h.bl_inv]; rfl
  | int b => cases e; rw [h.int_inv]; rfl
  | str x =>
    rw [h.str_inv]
    have e : (if x.length ≤ 16777216 then some ((x.length : Int) != 0) else none) = some b := e
    split at e
    · rename_i hl
      cases e
      exact ⟨by rw [← size16]; exact hl, rfl⟩
    · cases e
  | tup ds =>
    have e : (seqOf m (.tup ds)).map (fun ds => !ds.isEmpty) = some b := e
    obtain ⟨ds, e1, e2⟩ := Option.map_eq_some_iff.mp e
    exact key ds e1 e2
  | lst ds =>
    have e : (seqOf m (.lst ds)).map (fun ds => !ds.isEmpty) = some b := e
    obtain ⟨ds, e1, e2⟩ := Option.map_eq_some_iff.mp e
    exact key ds e1 e2
  | rol ds =>
    have e : (seqOf m (.rol ds)).map (fun ds => !ds.isEmpty) = some b := e
    obtain ⟨ds, e1, e2⟩ := Option.map_eq_some_iff.mp e
    exact key ds e1 e2
  | obj c ns fs =>
    have e : (seqOf m (.obj c ns fs)).map (fun ds => !ds.isEmpty) = some b := e
    obtain ⟨ds, e1, e2⟩ := Option.map_eq_some_iff.mp e
    exact key ds e1 e2
  | dct ks fs =>
    have e : (seqOf m (.dct ks fs)).map (fun ds => !ds.isEmpty) = some b := e
    obtain ⟨ds, e1, e2⟩ := Option.map_eq_some_iff.mp e
    exact key ds e1 e2
  | ref n =>
    have e : (seqOf m (.ref n)).map (fun ds => !ds.isEmpty) = some b := e
    obtain ⟨ds, e1, e2⟩ := Option.map_eq_some_iff.mp e
    exact key ds e1 e2
/-- an expression's truth -/
theorem tE_tru {W : WX} {f : Env → Sto → Res D} {σ : L2.St} {H : Hp} {Q : Bool → Hp → Prop} (h : tT K W (fun d m => (f d m).bind evTru) σ H Q) : tE K W f σ H fun x H' => ∃ k, TruV K x H' k ∧ Q k H' := by
  obtain ⟨Z, r, δ, m, rs, g0⟩ := h
  refine ⟨Z, r, δ, m, rs, g0.bind.mono fun v H1 ⟨r1, d, m1, e1, s1, h1, _, g1⟩ => ?_⟩
  unfold evTru at g1
  split at g1
  · rename_i b eb
    exact ⟨b, truth_TruV s1 h1 eb, g1.now s1⟩
  · exact g1.elim
end
/-! ### the syntax's small facts -/
theorem star1 {e : PySem.Expr} {es : List PySem.Expr} {env : PySem.Env} (h : notStar e = true) : starEach (e :: es) env = (false, eval e env) :: starEach es env := by
  cases e <;> first | rfl | cases h
theorem mEs_star {N : List Str} {sc : Scope} : ∀ {es : Exs} {es' : List PySem.Expr}, mEs N sc es es' = true → ∀ e ∈ es', notStar e = true
  | .nil, [], _ => fun e he => by cases he
  | .nil, _ :: _, h => by simp [mEs] at h
  | .cons _ _, [], h => by simp [mEs] at h
  | .cons e es, e' :: es', h => by
    simp only [mEs, Bool.and_eq_true] at h
    intro x hx
    rcases List.mem_cons.mp hx with rfl | hx
    · exact h.1.1
    · exact mEs_star h.2 x hx
theorem star_all {env : PySem.Env} {pos : Pos} : ∀ {es : List PySem.Expr}, (∀ e ∈ es, notStar e = true) → (backTo pos (starEach es env)).any (·.1) = false
  | [], _ => rfl
  | e :: es, h => by
    rw [star1 (h e List.mem_cons_self)]
    show (false || (backTo pos (starEach es env)).any (·.1)) = false
    rw [star_all fun x hx => h x (List.mem_cons_of_mem _ hx)]
    rfl
theorem base_ok {e : PySem.Expr} {f : Str} {env : PySem.Env} (h : noSup e = true) : attributeBase e f env (eval e env) = eval e env := by
  unfold attributeBase
  split
  · rename_i id p pos
    have h' : (!(id == ("super" : Str))) = true := h
    have h2 : (id != ("super" : Str)) = true := h'
    rw [h2]
    simp
  · rfl
theorem isTrue_gen {e : PySem.Expr} {env : PySem.Env} (h1 : ∀ a p, e ≠ .UnaryOp .Not a p) (h2 : ∀ o a p, e ≠ .BoolOp o a p) (h3 : ∀ a b c p, e ≠ .IfExp a b c p) (h4 : ∀ a b c p, e ≠ .Compare a b c p) (whole : Sem Value) :
    isTrue e env whole = (do let v ← whole; standAt e.pos; holding [v] (truthy v)) := by
  cases e with
  | UnaryOp op a p => cases op with
    | Not => exact absurd rfl (h1 a p)
    | _ => rfl
  | BoolOp o a p => exact absurd rfl (h2 o a p)
  | IfExp a b c p => exact absurd rfl (h3 a b c p)
  | Compare a b c p => exact absurd rfl (h4 a b c p)
  | _ => rfl
theorem plainIx {b : PySem.Expr} (h : notSlice b = true) : PlainIx b := by
  intro o i
  cases b <;> first | rfl | cases h
theorem vis_of {sc : Scope} {x : Str} (h : visB sc x = true) : Vis sc x := by
  unfold visB at h
  split at h
  · exact .inl (by assumption)
  · exact .inr (.inl (by assumption))
  · exact .inr (.inr (by assumption))
  · cases h
theorem loc_of {sc : Scope} {x : Str} (h : locB sc x = true) : sc.names.lookup x = some .local := by
  unfold locB at h
  split at h
  · assumption
  · cases h
theorem loc2_of {fl : Str → Bool} {sc : Scope} {x : Str} (h : loc2B fl sc x = true) : Loc sc x ∧ (fl x = true ∨ sc.names.lookup x = some .local) := by
  unfold loc2B at h
  split at h
  · rename_i q; exact ⟨.inl q, .inr q⟩
  · rename_i q; exact ⟨.inr q, .inl h⟩
  · cases h
theorem glo_of {sc : Scope} {x : Str} (h : gloB sc x = true) : sc.names.lookup x = some .globalImplicit ∧ (x == ("__debug__" : Str)) = false ∧ x ≠ "__name__" := by
  unfold gloB at h
  simp only [Bool.and_eq_true, Bool.not_eq_true'] at h
  obtain ⟨⟨h1, h2⟩, h3⟩ := h
  refine ⟨?_, h2, fun e => ?_⟩
  · split at h1
    · assumption
    · cases h1
  · subst e
    simp at h3
theorem SX.gl {X : Cx} {W : WX} {N : List Str} {sc : Scope} (S : SX X W N sc) {x : Str} (h : gloB sc x = true) : Gl X x := by
  unfold Gl PySem.Env.kindOf
  rw [S.hs]
  exact (glo_of h).1
end ME
set_option Elab.async false
set_option linter.all false
set_option maxRecDepth 100000
set_option maxHeartbeats 4000000
namespace ME
open PySem PySem.Spec PyProof.Rows L2
/-! ### what a match tells -/
section
variable {N : List Str} {sc : Scope} {e' : PySem.Expr}
theorem mE_var {i : Nat} (h : mE N sc (.var i) e' = true) : ∃ x pos, e' = .Name x pos ∧ N[i]? = some x ∧ visB sc x = true ∧ (x == ("__debug__" : Str)) = false ∧ (x == ("__classdict__" : Str)) = false := by
  cases e' <;> first | (cases h; done) | skip
  rename_i x pos
  simp only [mE, mEs, mO, mT, mTs, mI, Bool.and_eq_true, Bool.not_eq_true', decide_eq_true_eq] at h
  obtain ⟨⟨⟨h1, h2⟩, h3⟩, h4⟩ := h
  exact ⟨x, pos, rfl, h1, h2, h3, h4⟩
theorem mE_int {i : Int} (h : mE N sc (.int i) e' = true) : ∃ k pos, e' = .Constant (.int i) k pos := by
  cases e' <;> first | (cases h; done) | skip
  rename_i v k pos
  cases v <;> first | (cases h; done) | skip
  rename_i z
  rw [mE] at h
  rw [of_decide_eq_true h]
  exact ⟨k, pos, rfl⟩
theorem mE_str {i : Str} (h : mE N sc (.str i) e' = true) : ∃ k pos, e' = .Constant (.str i) k pos := by
  cases e' <;> first | (cases h; done) | skip
  rename_i v k pos
  cases v <;> first | (cases h; done) | skip
  rename_i z
  rw [mE] at h
  rw [of_decide_eq_true h]
  exact ⟨k, pos, rfl⟩
theorem mE_bl {i : Bool} (h : mE N sc (.bl i) e' = true) : ∃ k pos, e' = .Constant (.bool i) k pos := by
  cases e' <;> first | (cases h; done) | skip
  rename_i v k pos
  cases v <;> first | (cases h; done) | skip
  rename_i z
  rw [mE] at h
  rw [of_decide_eq_true h]
  exact ⟨k, pos, rfl⟩
theorem mE_non  (h : mE N sc Ex.non e' = true) : ∃ k pos, e' = .Constant .none k pos := by
  cases e' <;> first | (cases h; done) | skip
  rename_i v k pos
  cases v <;> first | (cases h; done) | skip
  exact ⟨k, pos, rfl⟩
theorem mE_glo {x : Str} {d : D} (h : mE N sc (.glo x d) e' = true) : ∃ pos, e' = .Name x pos ∧ gloB sc x = true := by
  cases e' <;> first | (cases h; done) | skip
  rename_i y pos
  simp only [mE, mEs, mO, mT, mTs, mI, Bool.and_eq_true, Bool.not_eq_true', decide_eq_true_eq] at h
  obtain ⟨rfl, h2⟩ := h
  exact ⟨pos, rfl, h2⟩
theorem mE_bin {op : Operator} {a b : Ex} (h : mE N sc (.bin op a b) e' = true) : ∃ a' b' pos, e' = .BinOp a' op b' pos ∧ mE N sc a a' = true ∧ mE N sc b b' = true := by
  cases e' <;> first | (cases h; done) | skip
  rename_i a' op' b' pos
  simp only [mE, mEs, mO, mT, mTs, mI, Bool.and_eq_true, Bool.not_eq_true', decide_eq_true_eq] at h
  obtain ⟨⟨rfl, h1⟩, h2⟩ := h
  exact ⟨_, _, _, rfl, h1, h2⟩
theorem mE_neg {a : Ex} (h : mE N sc (.neg a) e' = true) : ∃ a' pos, e' = .UnaryOp .USub a' pos ∧ mE N sc a a' = true := by
  cases e' <;> first | (cases h; done) | skip
  rename_i op a' pos
  cases op <;> first | (cases h; done) | skip
  rw [mE] at h
  exact ⟨_, _, rfl, h⟩
theorem mE_nt {a : Ex} (h : mE N sc (.nt a) e' = true) : ∃ a' pos, e' = .UnaryOp .Not a' pos ∧ mE N sc a a' = true := by
  cases e' <;> first | (cases h; done) | skip
  rename_i op a' pos
  cases op <;> first | (cases h; done) | skip
  rw [mE] at h
  exact ⟨_, _, rfl, h⟩
theorem mE_and {es : Exs} (h : mE N sc (.and es) e' = true) : ∃ vs pos, e' = .BoolOp .And vs pos ∧ mEs N sc es vs = true := by
  cases e' <;> first | (cases h; done) | skip
  rename_i op vs pos
  cases op <;> first | (cases h; done) | skip
  rw [mE] at h
  exact ⟨_, _, rfl, h⟩
theorem mE_or {es : Exs} (h : mE N sc (.or es) e' = true) : ∃ vs pos, e' = .BoolOp .Or vs pos ∧ mEs N sc es vs = true := by
  cases e' <;> first | (cases h; done) | skip
  rename_i op vs pos
  cases op <;> first | (cases h; done) | skip
  rw [mE] at h
  exact ⟨_, _, rfl, h⟩
theorem mE_cmp {op : CmpOp} {a b : Ex} (h : mE N sc (.cmp op a b) e' = true) : ∃ a' b' pos, e' = .Compare a' [op] [b'] pos ∧ behindInMarks op b' = false ∧ mE N sc a a' = true ∧ mE N sc b b' = true := by
  cases e' <;> first | (cases h; done) | skip
  rename_i a' ops bs pos
  cases ops <;> first | (cases h; done) | skip
  rename_i o1 ops
  cases ops <;> first | (cases h; done) | skip
  cases bs <;> first | (cases h; done) | skip
  rename_i b' bs
  cases bs <;> first | (cases h; done) | skip
  simp only [mE, mEs, mO, mT, mTs, mI, Bool.and_eq_true, Bool.not_eq_true', decide_eq_true_eq] at h
  obtain ⟨⟨⟨rfl, h0⟩, h1⟩, h2⟩ := h
  exact ⟨_, _, _, rfl, h0, h1, h2⟩
theorem mE_chn {o1 o2 : CmpOp} {a b c : Ex} (h : mE N sc (.chn o1 o2 a b c) e' = true) : ∃ a' b' c' pos, e' = .Compare a' [o1, o2] [b', c'] pos ∧ lastMarks [o1, o2] [b', c'] = false ∧ mE N sc a a' = true ∧ mE N sc b b' = true ∧ mE N sc c c' = true := by
  cases e' <;> first | (cases h; done) | skip
  rename_i a' ops bs pos
  cases ops <;> first | (cases h; done) | skip
  rename_i p1 ops
  cases ops <;> first | (cases h; done) | skip
  rename_i p2 ops
  cases ops <;> first | (cases h; done) | skip
  cases bs <;> first | (cases h; done) | skip
  rename_i b' bs
  cases bs <;> first | (cases h; done) | skip
  rename_i c' bs
  cases bs <;> first | (cases h; done) | skip
  simp only [mE, mEs, mO, mT, mTs, mI, Bool.and_eq_true, Bool.not_eq_true', decide_eq_true_eq] at h
  obtain ⟨⟨⟨⟨⟨rfl, rfl⟩, h0⟩, h1⟩, h2⟩, h3⟩ := h
  exact ⟨_, _, _, _, rfl, h0, h1, h2, h3⟩
theorem mE_ite {c a b : Ex} (h : mE N sc (.ite c a b) e' = true) : ∃ c' a' b' pos, e' = .IfExp c' a' b' pos ∧ tstOk c = true ∧ mE N sc c c' = true ∧ mE N sc a a' = true ∧ mE N sc b b' = true := by
  cases e' <;> first | (cases h; done) | skip
  rename_i c' a' b' pos
  simp only [mE, mEs, mO, mT, mTs, mI, Bool.and_eq_true, Bool.not_eq_true', decide_eq_true_eq] at h
  obtain ⟨⟨⟨h0, h1⟩, h2⟩, h3⟩ := h
  exact ⟨_, _, _, _, rfl, h0, h1, h2, h3⟩
theorem mE_tup {es : Exs} (h : mE N sc (.tup es) e' = true) : ∃ vs k pos, e' = .Tuple vs k pos ∧ mEs N sc es vs = true := by
  cases e' <;> first | (cases h; done) | skip
  rename_i vs k pos
  rw [mE] at h
  exact ⟨_, _, _, rfl, h⟩
theorem mE_lst {es : Exs} (h : mE N sc (.lst es) e' = true) : ∃ vs pos, e' = .List vs pos ∧ mEs N sc es vs = true := by
  cases e' <;> first | (cases h; done) | skip
  rename_i vs pos
  rw [mE] at h
  exact ⟨_, _, rfl, h⟩
theorem mE_lstM {es : Exs} (h : mE N sc (.lstM es) e' = true) : ∃ vs pos, e' = .List vs pos ∧ mEs N sc es vs = true := by
  cases e' <;> first | (cases h; done) | skip
  rename_i vs pos
  rw [mE] at h
  exact ⟨_, _, rfl, h⟩
theorem mE_idx {a b : Ex} (h : mE N sc (.idx a b) e' = true) : ∃ a' b' pos, e' = .Subscript a' b' pos ∧ notSlice b' = true ∧ mE N sc a a' = true ∧ mE N sc b b' = true := by
  cases e' <;> first | (cases h; done) | skip
  rename_i a' b' pos
  simp only [mE, mEs, mO, mT, mTs, mI, Bool.and_eq_true, Bool.not_eq_true', decide_eq_true_eq] at h
  obtain ⟨⟨h0, h1⟩, h2⟩ := h
  exact ⟨_, _, _, rfl, h0, h1, h2⟩
theorem mE_get {a b : Ex} (h : mE N sc (.get a b) e' = true) : ∃ a' b' pos, e' = .Subscript a' b' pos ∧ notSlice b' = true ∧ mE N sc a a' = true ∧ mE N sc b b' = true := by
  cases e' <;> first | (cases h; done) | skip
  rename_i a' b' pos
  simp only [mE, mEs, mO, mT, mTs, mI, Bool.and_eq_true, Bool.not_eq_true', decide_eq_true_eq] at h
  obtain ⟨⟨h0, h1⟩, h2⟩ := h
  exact ⟨_, _, _, rfl, h0, h1, h2⟩
theorem mE_slc {a : Ex} {lo hi : Exs} (h : mE N sc (.slc a lo hi) e' = true) : ∃ a' lo' hi' p2 pos, e' = .Subscript a' (.Slice lo' hi' none p2) pos ∧ mE N sc a a' = true ∧ mO N sc lo lo' = true ∧ mO N sc hi hi' = true := by
  cases e' <;> first | (cases h; done) | skip
  rename_i a' b' pos
  cases b' <;> first | (cases h; done) | skip
  rename_i lo' hi' st p2
  cases st <;> first | (cases h; done) | skip
  simp only [mE, mEs, mO, mT, mTs, mI, Bool.and_eq_true, Bool.not_eq_true', decide_eq_true_eq] at h
  obtain ⟨⟨h0, h1⟩, h2⟩ := h
  exact ⟨_, _, _, _, _, rfl, h0, h1, h2⟩
theorem mE_rev {a : Ex} (h : mE N sc (.rev a) e' = true) : ∃ a' k p1 p2 p3 pos, e' = .Subscript a' (.Slice none none (some (.UnaryOp .USub (.Constant (.int 1) k p1) p2)) p3) pos ∧ mE N sc a a' = true := by
  cases e' <;> first | (cases h; done) | skip
  rename_i a' b' pos
  cases b' <;> first | (cases h; done) | skip
  rename_i lo' hi' st p3
  cases lo' <;> first | (cases h; done) | skip
  cases hi' <;> first | (cases h; done) | skip
  cases st <;> first | (cases h; done) | skip
  rename_i u
  cases u <;> first | (cases h; done) | skip
  rename_i op v p2
  cases op <;> first | (cases h; done) | skip
  cases v <;> first | (cases h; done) | skip
  rename_i cc k p1
  cases cc <;> first | (cases h; done) | skip
  simp only [mE, mEs, mO, mT, mTs, mI, Bool.and_eq_true, Bool.not_eq_true', decide_eq_true_eq] at h
  obtain ⟨rfl, h1⟩ := h
  exact ⟨_, _, _, _, _, _, rfl, h1⟩
theorem mE_bf {b : Bf} {es : Exs} (h : mE N sc (.bf b es) e' = true) : ∃ p a1 ar pos, e' = .Call (.Name b.name p) (a1 :: ar) [] pos ∧ gloB sc b.name = true ∧ mEs N sc es (a1 :: ar) = true := by
  cases e' <;> first | (cases h; done) | skip
  rename_i f args kws pos
  cases f <;> first | (cases h; done) | skip
  rename_i x p
  cases args <;> first | (cases h; done) | skip
  rename_i a1 ar
  cases kws <;> first | (cases h; done) | skip
  rw [mE] at h
  rw [Bool.and_eq_true, Bool.and_eq_true] at h
  obtain ⟨⟨h0, h1⟩, h2⟩ := h
  obtain rfl := of_decide_eq_true h0
  exact ⟨_, _, _, _, rfl, h1, h2⟩
theorem mE_tupR {a : Ex} (h : mE N sc (.tupR a) e' = true) : ∃ p p2 a' pos2 pos, e' = .Call (.Name "tuple" p) [.Call (.Name "range" p2) [a'] [] pos2] [] pos ∧ gloB sc "tuple" = true ∧ gloB sc "range" = true ∧ mE N sc a a' = true ∧ notStar a' = true := by
  cases e' <;> first | (cases h; done) | skip
  rename_i f args kws pos
  cases f <;> first | (cases h; done) | skip
  rename_i x p
  cases args <;> first | (cases h; done) | skip
  rename_i a1 ar
  cases a1 <;> first | (cases h; done) | skip
  rename_i f2 args2 kws2 pos2
  cases f2 <;> first | (cases h; done) | skip
  rename_i y p2
  cases args2 <;> first | (cases h; done) | skip
  rename_i a2 ar2
  cases ar2 <;> first | (cases h; done) | skip
  cases kws2 <;> first | (cases h; done) | skip
  cases ar <;> first | (cases h; done) | skip
  cases kws <;> first | (cases h; done) | skip
  simp only [mE, mEs, mO, mT, mTs, mI, Bool.and_eq_true, Bool.not_eq_true', decide_eq_true_eq] at h
  obtain ⟨⟨⟨⟨⟨rfl, rfl⟩, h1⟩, h2⟩, h3⟩, h4⟩ := h
  exact ⟨_, _, _, _, _, rfl, h1, h2, h3, h4⟩
theorem mE_isi {a : Ex} {t : Ty} {cs : List Str} (h : mE N sc (.isi a t cs) e' = true) : ∃ p a' p2 pos, e' = .Call (.Name "isinstance" p) [a', .Name (tyName t) p2] [] pos ∧ gloB sc "isinstance" = true ∧ gloB sc (tyName t) = true ∧ mE N sc a a' = true ∧ notStar a' = true := by
  cases e' <;> first | (cases h; done) | skip
  rename_i f args kws pos
  cases f <;> first | (cases h; done) | skip
  rename_i x p
  cases args <;> first | (cases h; done) | skip
  rename_i a1 ar
  cases ar <;> first | (cases h; done) | skip
  rename_i a2 ar
  cases a2 <;> first | (cases h; done) | skip
  rename_i y p2
  cases ar <;> first | (cases h; done) | skip
  cases kws <;> first | (cases h; done) | skip
  simp only [mE, mEs, mO, mT, mTs, mI, Bool.and_eq_true, Bool.not_eq_true', decide_eq_true_eq] at h
  obtain ⟨⟨⟨⟨⟨rfl, rfl⟩, h1⟩, h2⟩, h3⟩, h4⟩ := h
  exact ⟨_, _, _, _, rfl, h1, h2, h3, h4⟩
theorem mE_bm {b : Bm} {o : Ex} {es : Exs} (h : mE N sc (.bm b o es) e' = true) : ∃ o' apos args pos, e' = .Call (.Attribute o' b.name apos) args [] pos ∧ noSup o' = true ∧ (apos.endLine == pos.line) = true ∧ args.length < 20 ∧ mE N sc o o' = true ∧ mEs N sc es args = true := by
  cases e' <;> first | (cases h; done) | skip
  rename_i f args kws pos
  cases f <;> first | (cases h; done) | skip
  rename_i o' m' apos
  cases kws <;> first | (cases h; done) | skip
  simp only [mE, Bool.and_eq_true] at h
  obtain ⟨⟨⟨⟨⟨h0, h1⟩, h2⟩, h3⟩, h4⟩, h5⟩ := h
  obtain rfl := of_decide_eq_true h0
  exact ⟨_, _, _, _, rfl, h1, h2, of_decide_eq_true h3, h4, h5⟩
theorem mE_mth {c : Str} {o : Ex} {m : Str} {F : Fn} {es : Exs} (h : mE N sc (.mth c o m F es) e' = true) : ∃ o' apos args pos, e' = .Call (.Attribute o' m apos) args [] pos ∧ noSup o' = true ∧ (apos.endLine == pos.line) = true ∧ args.length < 20 ∧ mE N sc o o' = true ∧ mEs N sc es args = true := by
  cases e' <;> first | (cases h; done) | skip
  rename_i f args kws pos
  cases f <;> first | (cases h; done) | skip
  rename_i o' m' apos
  cases kws <;> first | (cases h; done) | skip
  simp only [mE, Bool.and_eq_true] at h
  obtain ⟨⟨⟨⟨⟨h0, h1⟩, h2⟩, h3⟩, h4⟩, h5⟩ := h
  obtain rfl := of_decide_eq_true h0
  exact ⟨_, _, _, _, rfl, h1, h2, of_decide_eq_true h3, h4, h5⟩
theorem mE_callK {x : Str} {F : Fn} {ks : List Str} {perm : List Nat} {es : Exs} (h : mE N sc (.callK x F ks perm es) e' = true) : ∃ p kws pos, e' = .Call (.Name x p) [] kws pos ∧ gloB sc x = true ∧ kws.map (·.arg) = ks.map some ∧ mEs N sc es (kws.map (·.value)) = true := by
  cases e' <;> first | (cases h; done) | skip
  rename_i f args kws pos
  cases f <;> first | (cases h; done) | skip
  rename_i y p
  cases args <;> first | (cases h; done) | skip
  cases kws <;> first | (cases h; done) | skip
  rename_i k1 kr
  simp only [mE, Bool.and_eq_true] at h
  obtain ⟨⟨⟨h0, h1⟩, h2⟩, h3⟩ := h
  obtain rfl := of_decide_eq_true h0
  exact ⟨_, _, _, rfl, h1, of_decide_eq_true h2, h3⟩
theorem mE_call {x : Str} {F : Fn} {es : Exs} (h : mE N sc (.call x F es) e' = true) : ∃ p args pos, e' = .Call (.Name x p) args [] pos ∧ gloB sc x = true ∧ mEs N sc es args = true := by
  cases e' <;> first | (cases h; done) | skip
  rename_i f args kws pos
  cases f <;> first | (cases h; done) | skip
  rename_i y p
  cases kws <;> first | (cases h; done) | skip
  simp only [mE, mEs, mO, mT, mTs, mI, Bool.and_eq_true, Bool.not_eq_true', decide_eq_true_eq] at h
  obtain ⟨⟨rfl, h1⟩, h2⟩ := h
  exact ⟨_, _, _, rfl, h1, h2⟩
theorem mE_new {x : Str} {F : Fn} {es : Exs} (h : mE N sc (.new x F es) e' = true) : ∃ p args pos, e' = .Call (.Name x p) args [] pos ∧ gloB sc x = true ∧ mEs N sc es args = true := by
  cases e' <;> first | (cases h; done) | skip
  rename_i f args kws pos
  cases f <;> first | (cases h; done) | skip
  rename_i y p
  cases kws <;> first | (cases h; done) | skip
  simp only [mE, mEs, mO, mT, mTs, mI, Bool.and_eq_true, Bool.not_eq_true', decide_eq_true_eq] at h
  obtain ⟨⟨rfl, h1⟩, h2⟩ := h
  exact ⟨_, _, _, rfl, h1, h2⟩
theorem mE_fld {c : Str} {o : Ex} {f : Str} (h : mE N sc (.fld c o f) e' = true) : ∃ o' pos, e' = .Attribute o' f pos ∧ noSup o' = true ∧ mE N sc o o' = true := by
  cases e' <;> first | (cases h; done) | skip
  rename_i o' f' pos
  simp only [mE, mEs, mO, mT, mTs, mI, Bool.and_eq_true, Bool.not_eq_true', decide_eq_true_eq] at h
  obtain ⟨⟨rfl, h1⟩, h2⟩ := h
  exact ⟨_, _, rfl, h1, h2⟩
theorem mE_prp {c : Str} {o : Ex} {f : Str} {F : Fn} (h : mE N sc (.prp c o f F) e' = true) : ∃ o' pos, e' = .Attribute o' f pos ∧ noSup o' = true ∧ mE N sc o o' = true := by
  cases e' <;> first | (cases h; done) | skip
  rename_i o' f' pos
  simp only [mE, mEs, mO, mT, mTs, mI, Bool.and_eq_true, Bool.not_eq_true', decide_eq_true_eq] at h
  obtain ⟨⟨rfl, h1⟩, h2⟩ := h
  exact ⟨_, _, rfl, h1, h2⟩
theorem mE_lc {elt : Ex} {t : Tgt} {it : Itr} {ifs : Exs} {own : List (Str × Nat)} (h : mE N sc (.lc elt t it ifs own) e' = true) : ∃ elt' t' it' ifs' scope' pos, e' = .ListComp elt' [⟨t', it', ifs', 0⟩] scope' pos ∧ blkC N sc scope' own = true ∧ ownOk t own = true ∧ mE N (relS scope' sc) elt elt' = true ∧ mT N (ownCell scope') (relS scope' sc) t t' = true ∧ mI N sc it it' t' = true ∧ mEs N (relS scope' sc) ifs ifs' = true ∧ tstOk.tstOks ifs = true := by
  cases e' <;> first | (cases h; done) | skip
  rename_i elt' gs scope' pos
  cases gs <;> first | (cases h; done) | skip
  rename_i g gs
  obtain ⟨t', it', ifs', as'⟩ := g
  cases gs <;> first | (cases h; done) | skip
  simp only [mE, Bool.and_eq_true] at h
  obtain ⟨⟨⟨⟨⟨⟨⟨h0, h1⟩, h2⟩, h3⟩, h4⟩, h5⟩, h6⟩, h7⟩ := h
  obtain rfl := of_decide_eq_true h0
  exact ⟨_, _, _, _, _, _, rfl, h1, h2, h3, h4, h5, h6, h7⟩
theorem mE_lcM {elt : Ex} {t : Tgt} {it : Itr} {ifs : Exs} {own : List (Str × Nat)} (h : mE N sc (.lcM elt t it ifs own) e' = true) : ∃ elt' t' it' ifs' scope' pos, e' = .ListComp elt' [⟨t', it', ifs', 0⟩] scope' pos ∧ blkC N sc scope' own = true ∧ ownOk t own = true ∧ mE N (relS scope' sc) elt elt' = true ∧ mT N (ownCell scope') (relS scope' sc) t t' = true ∧ mI N sc it it' t' = true ∧ mEs N (relS scope' sc) ifs ifs' = true ∧ tstOk.tstOks ifs = true := by
  cases e' <;> first | (cases h; done) | skip
  rename_i elt' gs scope' pos
  cases gs <;> first | (cases h; done) | skip
  rename_i g gs
  obtain ⟨t', it', ifs', as'⟩ := g
  cases gs <;> first | (cases h; done) | skip
  simp only [mE, Bool.and_eq_true] at h
  obtain ⟨⟨⟨⟨⟨⟨⟨h0, h1⟩, h2⟩, h3⟩, h4⟩, h5⟩, h6⟩, h7⟩ := h
  obtain rfl := of_decide_eq_true h0
  exact ⟨_, _, _, _, _, _, rfl, h1, h2, h3, h4, h5, h6, h7⟩
theorem mE_dctM  (h : mE N sc Ex.dctM e' = true) : ∃ pos, e' = .Dict [] [] pos := by
  cases e' <;> first | (cases h; done) | skip
  rename_i ks vs pos
  cases ks <;> first | (cases h; done) | skip
  cases vs <;> first | (cases h; done) | skip
  exact ⟨pos, rfl⟩
theorem mT_name {fl : Str → Bool} {i : Nat} (h : mT N fl sc (.name i) e' = true) : ∃ x pos, e' = .Name x pos ∧ N[i]? = some x ∧ loc2B fl sc x = true := by
  cases e' <;> first | (cases h; done) | skip
  rename_i x pos
  simp only [mE, mEs, mO, mT, mTs, mI, Bool.and_eq_true, Bool.not_eq_true', decide_eq_true_eq] at h
  exact ⟨_, _, rfl, h.1, h.2⟩
theorem mT_tup {fl : Str → Bool} {ts : Tgts} (h : mT N fl sc (.tup ts) e' = true) : ∃ vs k pos, e' = .Tuple vs k pos ∧ mTs N fl sc ts vs = true := by
  cases e' <;> first | (cases h; done) | skip
  rename_i vs k pos
  rw [mT] at h
  exact ⟨_, _, _, rfl, h⟩
theorem mT_sub {fl : Str → Bool} {o i : Ex} (h : mT N fl sc (.sub o i) e' = true) : ∃ o' i' pos, e' = .Subscript o' i' pos ∧ notSlice i' = true ∧ mE N sc o o' = true ∧ mE N sc i i' = true := by
  cases e' <;> first | (cases h; done) | skip
  rename_i o' i' pos
  simp only [mE, mEs, mO, mT, mTs, mI, Bool.and_eq_true, Bool.not_eq_true', decide_eq_true_eq] at h
  obtain ⟨⟨h0, h1⟩, h2⟩ := h
  exact ⟨_, _, _, rfl, h0, h1, h2⟩
theorem mT_put {fl : Str → Bool} {o i : Ex} (h : mT N fl sc (.put o i) e' = true) : ∃ o' i' pos, e' = .Subscript o' i' pos ∧ notSlice i' = true ∧ mE N sc o o' = true ∧ mE N sc i i' = true := by
  cases e' <;> first | (cases h; done) | skip
  rename_i o' i' pos
  simp only [mE, mEs, mO, mT, mTs, mI, Bool.and_eq_true, Bool.not_eq_true', decide_eq_true_eq] at h
  obtain ⟨⟨h0, h1⟩, h2⟩ := h
  exact ⟨_, _, _, rfl, h0, h1, h2⟩
theorem mT_att {fl : Str → Bool} {c : Str} {o : Ex} {f : Str} (h : mT N fl sc (.att c o f) e' = true) : ∃ o' pos, e' = .Attribute o' f pos ∧ mE N sc o o' = true := by
  cases e' <;> first | (cases h; done) | skip
  rename_i o' f' pos
  simp only [mE, mEs, mO, mT, mTs, mI, Bool.and_eq_true, Bool.not_eq_true', decide_eq_true_eq] at h
  obtain ⟨rfl, h1⟩ := h
  exact ⟨_, _, rfl, h1⟩
variable {tg : PySem.Expr}
theorem mI_rng1 {a : Ex} (h : mI N sc (.rng1 a) e' tg = true) : ∃ p a' pos, e' = .Call (.Name "range" p) [a'] [] pos ∧ gloB sc "range" = true ∧ notStar a' = true ∧ mE N sc a a' = true := by
  cases e' <;> first | (cases h; done) | skip
  rename_i f args kws pos
  cases f <;> first | (cases h; done) | skip
  rename_i x p
  cases args <;> first | (cases h; done) | skip
  rename_i a1 ar
  cases ar <;> first | (cases h; done) | skip
  cases kws <;> first | (cases h; done) | skip
  simp only [mE, mEs, mO, mT, mTs, mI, Bool.and_eq_true, Bool.not_eq_true', decide_eq_true_eq] at h
  obtain ⟨⟨⟨rfl, h1⟩, h2⟩, h3⟩ := h
  exact ⟨_, _, _, rfl, h1, h2, h3⟩
theorem mI_rng2 {a b : Ex} (h : mI N sc (.rng2 a b) e' tg = true) : ∃ p a' b' pos, e' = .Call (.Name "range" p) [a', b'] [] pos ∧ gloB sc "range" = true ∧ notStar a' = true ∧ notStar b' = true ∧ mE N sc a a' = true ∧ mE N sc b b' = true := by
  cases e' <;> first | (cases h; done) | skip
  rename_i f args kws pos
  cases f <;> first | (cases h; done) | skip
  rename_i x p
  cases args <;> first | (cases h; done) | skip
  rename_i a1 ar
  cases ar <;> first | (cases h; done) | skip
  rename_i a2 ar
  cases ar <;> first | (cases h; done) | skip
  cases kws <;> first | (cases h; done) | skip
  simp only [mE, mEs, mO, mT, mTs, mI, Bool.and_eq_true, Bool.not_eq_true', decide_eq_true_eq] at h
  obtain ⟨⟨⟨⟨⟨rfl, h1⟩, h2⟩, h3⟩, h4⟩, h5⟩ := h
  exact ⟨_, _, _, _, rfl, h1, h2, h3, h4, h5⟩
theorem mI_enumL {a : Ex} (h : mI N sc (.enumL a) e' tg = true) : ∃ p a' pos el kk tp, e' = .Call (.Name "enumerate" p) [a'] [] pos ∧ tg = .Tuple el kk tp ∧ gloB sc "enumerate" = true ∧ notStar a' = true ∧ mE N sc a a' = true := by
  cases e' <;> first | (cases h; done) | skip
  rename_i f args kws pos
  cases f <;> first | (cases h; done) | skip
  rename_i x p
  cases args <;> first | (cases h; done) | skip
  rename_i a1 ar
  cases ar <;> first | (cases h; done) | skip
  cases kws <;> first | (cases h; done) | skip
  cases tg <;> first | (cases h; done) | skip
  rename_i el kk tp
  simp only [mE, mEs, mO, mT, mTs, mI, Bool.and_eq_true, Bool.not_eq_true', decide_eq_true_eq] at h
  obtain ⟨⟨⟨rfl, h1⟩, h2⟩, h3⟩ := h
  exact ⟨_, _, _, _, _, _, rfl, rfl, h1, h2, h3⟩
theorem mEs_nil {es' : List PySem.Expr} (h : mEs N sc .nil es' = true) : es' = [] := by
  cases es' with
  | nil => rfl
  | cons _ _ => cases h
theorem mEs_cons {e : Ex} {es : Exs} {es' : List PySem.Expr} (h : mEs N sc (.cons e es) es' = true) : ∃ a l, es' = a :: l ∧ notStar a = true ∧ mE N sc e a = true ∧ mEs N sc es l = true := by
  cases es' with
  | nil => cases h
  | cons a l =>
    rw [mEs, Bool.and_eq_true, Bool.and_eq_true] at h
    exact ⟨a, l, rfl, h.1.1, h.1.2, h.2⟩
theorem mTs_nil {fl : Str → Bool} {es' : List PySem.Expr} (h : mTs N fl sc .nil es' = true) : es' = [] := by
  cases es' with
  | nil => rfl
  | cons _ _ => cases h
theorem mTs_cons {fl : Str → Bool} {e : Tgt} {es : Tgts} {es' : List PySem.Expr} (h : mTs N fl sc (.cons e es) es' = true) : ∃ a l, es' = a :: l ∧ notStar a = true ∧ mT N fl sc e a = true ∧ mTs N fl sc es l = true := by
  cases es' with
  | nil => cases h
  | cons a l =>
    rw [mTs, Bool.and_eq_true, Bool.and_eq_true] at h
    exact ⟨a, l, rfl, h.1.1, h.1.2, h.2⟩
theorem mO_inv {es : Exs} {o : Option PySem.Expr} (h : mO N sc es o = true) : (es = .nil ∧ o = none) ∨ ∃ e a, es = .cons e .nil ∧ o = some a ∧ mE N sc e a = true := by
  cases es with
  | nil => cases o with
    | none => exact .inl ⟨rfl, rfl⟩
    | some _ => cases h
  | cons e es => cases o with
    | none => cases es <;> cases h
    | some a => cases es with
      | nil => exact .inr ⟨e, a, rfl, rfl, by rw [mO] at h; exact h⟩
      | cons _ _ => cases h
end
end ME
set_option Elab.async false
set_option linter.all false
set_option maxRecDepth 100000
set_option maxHeartbeats 4000000
namespace ME
open PySem PySem.Spec PyProof.Rows L2
section
variable {prog : Program} {w : World} {A : Around} {E : Value → Shared → Prop} {s : Shared}
theorem fm_map {α β : Type} {f : α → Option β} {g : α → β} : ∀ {l : List α}, (∀ x ∈ l, f x = some (g x)) → l.filterMap f = l.map g
  | [], _ => rfl
  | a :: l, h => by rw [List.filterMap_cons_some (h a List.mem_cons_self), List.map_cons, fm_map fun x hx => h x (List.mem_cons_of_mem _ hx)]
theorem pick_rev (xs : Array Value) : ((List.range xs.size).filterMap fun (k : Nat) => xs[(((xs.size : Int) - 1) + (k : Int) * (-1)).toNat]?).toArray = xs.toList.reverse.toArray := by
  congr 1
  refine List.ext_getElem? fun i => ?_
  have e : (List.range xs.size).filterMap (fun (k : Nat) => xs[(((xs.size : Int) - 1) + (k : Int) * (-1)).toNat]?) = (List.range xs.size).map fun k => xs.toList.reverse.getD k default := by
    refine fm_map fun k hk => ?_
    have hk := List.mem_range.mp hk
    have h1 : (((xs.size : Int) - 1) + (k : Int) * (-1)).toNat = xs.size - 1 - k := by omega
    rw [h1]
    have h2 : xs.size - 1 - k < xs.size := by omega
    simp [List.getElem?_reverse, hk, h2]
  rw [e]
  by_cases hi : i < xs.size
  · simp [hi]
  · rw [List.getElem?_eq_none (by simpa using hi), List.getElem?_eq_none (by simpa using hi)]
theorem getItem_tuple_rev {t sl : Addr} {items : Array Value} {vl vu vs : Value} {Q : Value → Shared → Prop} (ht : IsTup s.heap t items) (hs : s.heap.IsSliceOf sl vl vu vs) (pl : IsPart vl none) (pu : IsPart vu none) (ps : IsPart vs (some (-1)))
    (h : Q (.ref s.heap.objs.size) { s with heap := s.heap.push { cls := .type "tuple", data := .seq items.toList.reverse.toArray } })
    (hsz : items.size ≤ sizeLine) : wpAny (model prog w) A (getItem (.ref t) (.ref sl)) Q E s := by
  have htake : sizeOk (.seq items.toList.reverse.toArray) := by
    show items.toList.reverse.toArray.size ≤ sizeLine
    rw [List.size_toArray, List.length_reverse, Array.length_toList]
    exact hsz
  obtain ⟨os, hos, hcs, hds⟩ := id hs
  have hTs : s.TypeIs (.ref sl) "slice" := ⟨os, hos, hcs⟩
  unfold getItem
  try with_reducible refine wpAny_holding ?_
  first | refine wpAny_bind (wpAny_pure ?_) | skip
  refine wpAny_bind (wpAny_sequenceKey ht.typeIs (by decide) ?_)
  refine wpAny_bind (wpAny_callSpecial?_slot (name := Str.ofString "__getitem__") ht.typeIs PyProof.Rows.slot_tuple_getitem
    (wpAny_call_entry PyProof.Rows.slot_tuple_getitem ht.typeIs entry_tuple_getitem ?_ (args_tuple_getitem _ _)))
  show wpAny _ _ (Builtin.Tuple.tupleItemsOf (.ref t) >>= _) _ _ s
  refine wpAny_bind (tupleItemsOf_ ht ?_)
  refine wpAny_bind (wpAny_typeOf hTs ?_)
  rw [if_pos (by decide)]
  refine wpAny_bind ?_
  unfold Builtin.Slice.sliceApplied Builtin.Slice.sliceFields
  refine wpAny_bind (wpAny_bind (wpAny_field hos hds (x := vl) rfl (wpAny_bind (wpAny_field hos hds (x := vu) rfl (wpAny_bind (wpAny_field hos hds (x := vs) rfl (wpAny_pure ?_)))))))
  refine wpAny_bind (HT.slicePart_ ps ?_)
  show wpAny _ _ (if (((-1 : Int)) == 0) = true then _ else _) _ _ s
  rw [if_neg (by decide)]
  refine wpAny_bind (HT.slicePart_ pl (wpAny_bind (HT.slicePart_ pu (wpAny_bind (wpAny_pure ?_)))))
  have ha : Builtin.Slice.sliceAdjust none none (-1) (items.size : Int) = ((items.size : Int) - 1, -1) := by
    unfold Builtin.Slice.sliceAdjust
    simp
  have hp : Builtin.Slice.slicePlaces ((items.size : Int) - 1) (-1) (-1) = items.size := by
    unfold Builtin.Slice.slicePlaces
    simp
    omega
  show wpAny _ _ (match Builtin.Slice.sliceAdjust none none (-1) (items.size : Int) with | (lo, hi) => pure (lo, (-1 : Int), Builtin.Slice.slicePlaces lo hi (-1))) _ _ s
  rw [ha]
  show wpAny _ _ (pure (((items.size : Int) - 1), (-1 : Int), Builtin.Slice.slicePlaces ((items.size : Int) - 1) (-1) (-1))) _ _ s
  rw [hp]
  refine wpAny_pure ?_
  have hno : ¬ (((((items.size : Int) - 1)) == 0 && (-1 : Int) == 1 && items.size == items.size) = true) := by
    intro q
    rw [Bool.and_eq_true, Bool.and_eq_true] at q
    exact absurd q.1.2 (by decide)
  show wpAny _ _ (if ((((items.size : Int) - 1)) == 0 && (-1 : Int) == 1 && items.size == items.size) = true then _ else _) _ _ s
  rw [if_neg hno, pick_rev]
  first
    | exact wpAny_bind (m := Builtin.Tuple.tupleExact _) (wpAny_newObj_type (wpAny_pure ⟨_, rfl, wpAny_pure h⟩) htake)
    | exact wpAny_bind (m := Builtin.Tuple.tupleExact _) (wpAny_newObj_type (wpAny_bind (wpAny_pure (wpAny_pure ⟨_, rfl, wpAny_pure h⟩))) htake)
    | exact wpAny_bind (wpAny_bind (m := Builtin.Tuple.tupleExact _) (wpAny_newObj_type (wpAny_pure (wpAny_pure ⟨_, rfl, wpAny_pure h⟩)) htake))
    | exact wpAny_bind (wpAny_bind (m := Builtin.Tuple.tupleExact _) (wpAny_newObj_type (wpAny_pure ⟨_, rfl, wpAny_pure h⟩) htake))
end
/-- t[::-1] of a tuple -/
def tRevT (K : PySem.W.Frag) (te : TE) : TE := fun σ H Q => te σ H fun x H1 => ∃ a xs, x = .ref a ∧ SqT K H1 a xs ∧ ∀ p, H1 p = none → Q (.ref p) (upd H1 p (.tup xs.reverse))
theorem pe_revT {X : Cx} {e : Expr} {te : TE} {k : Nat} {p1 p2 p3 pos : Pos} (he : PE X e te) : PE X (.Subscript e (.Slice none none (some (.UnaryOp .USub (.Constant (.int 1) k p1) p2)) p3) pos) (tRevT X.K te) := by
  refine ⟨fun pins s σ H Q I h => ?_⟩
  refine Subscript_ (thn (he.run pins s σ H _ I h) fun v s1 ⟨x, H1, I1, r1, q1⟩ => ?_)
  obtain ⟨a, xs, ex, hx, q⟩ := q1
  subst ex
  cases r1
  have hst : PO X (some (.UnaryOp .USub (.Constant (.int 1) k p1) p2)) (tPart (tUn (rU fun i => .int (-i)) (tC (.int 1)))) := po_some (pe_un un_neg pe_int)
  refine wpAny_Slice (thn (po_none.run pins s1 σ H1 (fun o H2 => o = none ∧ H2 = H1) I1 ⟨rfl, rfl⟩) fun vl s2 ⟨l, H2, I2, pl, el, e2⟩ => ?_)
  subst el e2
  refine thn (po_none.run pins s2 σ H2 (fun o H3 => o = none ∧ H3 = H2) I2 ⟨rfl, rfl⟩) fun vu s3 ⟨u, H3, I3, pu, eu, e3⟩ => ?_
  subst eu e3
  refine thn (hst.run pins s3 σ H3 (fun o H4 => o = some (-1) ∧ H4 = H3) I3 ⟨1, rfl, -1, rfl, rfl, rfl⟩) fun vs s4 ⟨o, H4, I4, ps, eo, e4⟩ => ?_
  subst eo e4
  have I5 : Inv X pins σ H4 { s4 with heap := s4.heap.push { cls := .type "slice", data := .fields #[vl, vu, vs] } } := I4.kept (t' := s4.toks) fun b ob q => Heap.get?_push_of_some _ q
  obtain ⟨its, r, ht, hz⟩ := I5.tuple hx
  have hlen := r.length
  show wpAny (model X.prog X.w) X.A (subscriptTail e (.Slice none none (some (.UnaryOp .USub (.Constant (.int 1) k p1) p2)) p3) (.ref a) (.ref s4.heap.objs.size)) (EP X pins σ Q) X.xe { s4 with heap := s4.heap.push { cls := .type "slice", data := .fields #[vl, vu, vs] } }
  refine tail_any (ops := [.ref a, .ref s4.heap.objs.size]) ht.typeIs (PyProof.Rows.slot_tuple_getitem.lookup) ?_ (by with_unfolding_all rfl)
  refine getItem_tuple_rev ht (Heap.IsSliceOf.new _ vl vu vs) pl pu ps ?_ (by rw [List.size_toArray]; omega)
  refine ⟨.ref _, _, I5.laid (t' := s4.toks) (o := .tup xs.reverse) (fun b ob q => Heap.get?_push_of_some _ q) (Nat.le_refl _) ?_, rfl, q _ (I5.hok.fresh (Nat.le_refl _))⟩
  have q2 := IsTup.new (s4.heap.push { cls := .type "slice", data := .fields #[vl, vu, vs] }) its.reverse.toArray
  exact ⟨by rw [List.length_reverse]; exact hz, _, r.reverse, by simpa using q2⟩
end ME
set_option Elab.async false
set_option linter.all false
set_option maxRecDepth 100000
set_option maxHeartbeats 4000000
namespace ME
open PySem PySem.Spec PyProof.Rows L2
/-! ### methods of built-in types, a dict locked or not -/
def tyW (K : PySem.W.Frag) (T : String) (x : V) (H : Hp) : Prop := tyV K T x H ∨ ∃ p kvs, x = .ref p ∧ T = "dict" ∧ Rd H p (.dK kvs)
section
variable {X : Cx}
theorem tyW_is {pins : List (Addr × Obj)} {σ : L2.St} {H : Hp} {s : Shared} {T : String} {x : V} {v : Value} (I : Inv X pins σ H s) (r : RelV x v) (ty : tyW X.K T x H) :
    s.TypeIs v T ∧ ∀ a, v = .ref a → ∃ ob, s.heap.get? a = some ob ∧ ob.dict = none := by
  rcases ty with ty | ⟨p, kvs, rfl, rfl, hk⟩
  · exact tyV_is I r ty
  · cases r
    obtain ⟨_, _, _, _, o, _, _, e, ex, _⟩ := dk_rd I.hok hk
    refine ⟨⟨o, e, ex.1⟩, fun a e2 => ?_⟩
    cases e2
    exact ⟨o, e, ex.2.1⟩
def tBW0 (K : PySem.W.Frag) (T : String) (r : V → List V → Hp → VK → Prop) (to : TE) : TE := fun σ H Q => to σ H fun x H1 => tyW K T x H1 ∧ r x [] H1 Q
def tBW (K : PySem.W.Frag) (T : String) (r : V → List V → Hp → VK → Prop) (to : TE) (t : TA) : TE := fun σ H Q => to σ H fun x H1 => tyW K T x H1 ∧ t σ H1 fun xs H2 => r x xs H2 Q
variable {o e : Expr} {es : List Expr} {to : TE} {t : TA} {name : Str} {apos cpos : Pos} {T id : String} {r : V → List V → Hp → VK → Prop}
theorem pe_bw0 (pa : PlainAttrs T) (slot : Slot T name id) (hty : typeOf (.builtin id) = pure (.type "method_descriptor")) (hm : MtR X id r) (ho : PE X o to)
    (hbase : attributeBase o name X.env (eval o X.env) = eval o X.env) (hline : (apos.endLine == cpos.line) = true) : PE X (.Call (.Attribute o name apos) [] [] cpos) (tBW0 X.K T r to) := by
  refine ⟨fun pins s σ H Q I h => ?_⟩
  refine wpAny_Call_method0_late hbase hline (thn (ho.run pins s σ H _ I h) fun v s1 ⟨x, H1, I1, r1, ty, q1⟩ => ?_)
  obtain ⟨h1, h2⟩ := tyW_is I1 r1 ty
  exact ⟨T, id, pa, slot, hty, h1, h2, Calls.callWith_builtin rfl (PySem.evalArgs_none (hm pins s1 σ H1 x [] v [] Q I1 r1 .nil q1))⟩
theorem pe_bw (pa : PlainAttrs T) (slot : Slot T name id) (hty : typeOf (.builtin id) = pure (.type "method_descriptor")) (hm : MtR X id r) (ho : PE X o to) (ha : PA X (e :: es) t)
    (hbase : attributeBase o name X.env (eval o X.env) = eval o X.env)
    (hfew : ((backTo cpos (starEach (e :: es) X.env)).all (fun x => !x.1) && (backToKw cpos (keywordEach [] X.env)).all (fun x => x.1.isSome)
      && decide ((e :: es).length + ([] : List Keyword).length + (if ([] : List Keyword).isEmpty then 0 else 1) < 30)) = true)
    (hline : (apos.endLine == cpos.line) = true) (hs : starEach (e :: es) X.env = (false, eval e X.env) :: starEach es X.env) (hplain : (backTo cpos (starEach es X.env)).any (·.1) = false) :
    PE X (.Call (.Attribute o name apos) (e :: es) [] cpos) (tBW X.K T r to t) := by
  refine ⟨fun pins s σ H Q I h => ?_⟩
  refine wpAny_Call_method_late hbase hfew hline rfl (thn (ho.run pins s σ H _ I h) fun v s1 ⟨x, H1, I1, r1, ty, q1⟩ => ?_)
  obtain ⟨h1, h2⟩ := tyW_is I1 r1 ty
  refine ⟨T, id, pa, slot, hty, h1, h2, ?_⟩
  have hA := ha.run cpos pins s1 σ H1 _ I1 q1
  rw [hs] at hA ⊢
  refine Calls.callWith_builtin (by show (false || (backTo cpos (starEach es X.env)).any (·.1)) = false; rw [hplain] <;> rfl) (Calls.evalArgs_plain ?_)
  exact thn hA fun us s2 ⟨vs, H2, I2, r2, q2⟩ => hm pins s2 σ H2 x vs v us Q I2 r1 r2 q2
end
end ME
set_option Elab.async false
set_option linter.all false
set_option maxRecDepth 100000
set_option maxHeartbeats 4000000
namespace ME
open PySem PySem.Spec PyProof.Rows L2
/-! ### the rules of expressions, by their parts' readings -/
section
variable {K : PySem.W.Frag} {Z : PZ} {r : List Addr} {H : Hp} {E : XK} {m : Sto}
theorem GE.tru {d : D} {v : V} {f : Bool → Sto → Res D} {Q : VK} (g : GE K Z r H ((evTru d m).bind f) Q E) (s : SR K Z r H m) (h : VR K Z r H d v) : ∃ b, truth m d = some b ∧ TruV K v H b ∧ GE K Z r H (f b m) Q E := by
  unfold evTru at g
  split at g
  · rename_i b eb
    exact ⟨b, eb, truth_TruV s h eb, g⟩
  · exact g.elim
theorem VRs.rev {ds : List D} {xs : List V} (h : VRs K Z r H ds xs) : VRs K Z r H ds.reverse xs.reverse := by
  induction ds generalizing xs with
  | nil => rw [h.inv_nil]; exact VRs.nil
  | cons d ds ih =>
    obtain ⟨x, t, rfl, h1, h2⟩ := h.inv_cons
    rw [List.reverse_cons, List.reverse_cons]
    exact (ih h2).append (.cons h1 .nil)
theorem VRs.rg (lo : Int) (l : List Nat) : VRs K Z r H (l.map fun (i : Nat) => .int (lo + (i : Int))) (l.map fun i => V.int (lo + (i : Nat))) := by
  induction l with
  | nil => exact VRs.nil
  | cons a l ih => exact .cons .intI ih
theorem fld_look {f : Str} : ∀ {ns : List Str} {ds : List D} {xs : List V} {d : D}, ns.length = xs.length → VRs K Z r H ds xs → fldOf f ns ds = some d → ∃ v, (ns.zip xs).lookup f = some v ∧ VR K Z r H d v
  | [], ds, xs, d, hl, h, e => by cases ds <;> cases e
  | n :: ns, [], xs, d, hl, h, e => by cases e
  | n :: ns, d' :: ds, xs, d, hl, h, e => by
    obtain ⟨x, t, rfl, h1, h2⟩ := h.inv_cons
    rw [fldOf] at e
    by_cases hn : n = f
    · rw [if_pos hn] at e; cases e
      subst hn
      exact ⟨x, by simp [List.lookup], h1⟩
    · rw [if_neg hn] at e
      obtain ⟨v, h3, h4⟩ := fld_look (by simpa using hl) h2 e
      refine ⟨v, ?_, h4⟩
      rw [List.zip_cons_cons, List.lookup_cons]
      rw [show (f == n) = false from beq_false_of_ne fun q => hn q.symm]
      exact h3
theorem look_none {f : Str} : ∀ {ns : List Str} {xs : List V}, f ∉ ns → (ns.zip xs).lookup f = none
  | [], xs, h => rfl
  | n :: ns, [], h => rfl
  | n :: ns, x :: xs, h => by
    rw [List.zip_cons_cons, List.lookup_cons, show (f == n) = false from beq_false_of_ne fun q => h (by rw [q]; exact List.mem_cons_self)]
    exact look_none fun q => h (List.mem_cons_of_mem _ q)
theorem SR.ins (s : SR K Z r H m) {d : D} {v : V} {c : Str} {ns : List Str} {fs : List D} (h : VR K Z r H d v) (e : insOf m d = some (c, ns, fs)) : ∃ a dx xs, v = .ref a ∧ H a = some (.ins (He.ga K c) dx (ns.zip xs)) ∧ ns.length = xs.length ∧ VRs K Z r H fs xs := by
  cases d with
  | obj c' ns' fs' =>
    cases e
    rw [VR] at h
    obtain ⟨a, dx, xs, rfl, h1, _, h2, h3⟩ := h
    exact ⟨a, dx, xs, rfl, h1, h2, h3⟩
  | ref n =>
    obtain ⟨a, rfl, ha⟩ := h.ref_inv
    have e : (match m[n]? with | some (Cell.ins c ns fs) => some (c, ns, fs) | _ => none) = some (c, ns, fs) := e
    split at e
    · rename_i c' ns' fs' em
      cases e
      obtain ⟨dx, xs, e1, hl, hs⟩ := s.cells n _ a em ha
      exact ⟨a, dx, xs, rfl, e1, hl, hs⟩
    · cases e
  | _ => cases e
theorem SR.insIs (s : SR K Z r H m) {d : D} {v : V} {c f : Str} (h : VR K Z r H d v) (e : insIs c f d m = true) : ∃ a dx fs, v = .ref a ∧ H a = some (.ins (He.ga K c) dx fs) ∧ fs.lookup f = none := by
  unfold ME.insIs at e
  split at e
  · rename_i c' ns fs ei
    rw [Bool.and_eq_true] at e
    obtain rfl := of_decide_eq_true e.1
    obtain ⟨a, dx, xs, rfl, h1, h2, h3⟩ := s.ins h ei
    exact ⟨a, dx, _, rfl, h1, look_none (of_decide_eq_true e.2)⟩
  · cases e
theorem SR.bmTy (s : SR K Z r H m) {d : D} {v : V} {b : Bm} (h : VR K Z r H d v) (e : bmTy b d m = true) : tyW K b.ty v H := by
  unfold ME.bmTy at e
  generalize ht : b.ty = T at e ⊢
  split at e
  · rw [h.str_inv]; exact .inl rfl
  · obtain ⟨ds, ed⟩ := Option.isSome_iff_exists.mp e
    obtain ⟨a, xs, rfl, h1, _⟩ := s.lstR h ed
    exact .inl (.inl ⟨rfl, xs, h1⟩)
  · obtain ⟨⟨ks, ds⟩, ed⟩ := Option.isSome_iff_exists.mp e
    obtain ⟨a, xs, rfl, h1, _⟩ := s.dctR h ed
    exact .inr ⟨a, _, rfl, rfl, h1⟩
  · cases e
theorem SR.tyx (s : SR K Z r H m) {d : D} {v : V} {u : String} (h : VR K Z r H d v) (e : tyOf m d = some u) : TyX K H v (.type u) := by
  cases d with
  | non => cases e; rw [h.non_inv]; exact .base .non
  | bl b => cases e; rw [h.bl_inv]; exact .base (.bl b)
  | int b => cases e; rw [h.int_inv]; exact .base (.int b)
  | str b => cases e; rw [h.str_inv]; exact .base (.str b)
  | tup ds =>
    cases e
    obtain ⟨a, xs, rfl, h1, _⟩ := h.tup_inv
    rcases h1 with ⟨h1 | ⟨o, h1⟩, _⟩ | h1
    · exact .base (.tup h1)
    · exact .fTuple h1
    · rcases h1 with (h1 | ⟨o, h1⟩) | h1
      · cases h1
      · cases h1
      · obtain ⟨o, its, n, k0, k1, k2⟩ := h1
        exact .kTuple k0 k1
  | lst ds =>
    cases e
    obtain ⟨a, xs, rfl, h1, _⟩ := h.lst_inv
    exact .base (.lst h1.1)
  | dct ks ds =>
    cases e
    obtain ⟨a, xs, rfl, h1, _⟩ := h.dct_inv
    exact .base (.dK h1)
  | ref n =>
    obtain ⟨a, rfl, ha⟩ := h.ref_inv
    have e : (match m[n]? with | some (Cell.lst _) => some "list" | some (Cell.dct _ _) => some "dict" | _ => none) = some u := e
    split at e
    · rename_i ds em
      cases e
      obtain ⟨xs, h1, _⟩ := s.cells n _ a em ha
      exact .base (.lst h1)
    · rename_i ks ds em
      cases e
      obtain ⟨xs, h1, _⟩ := s.cells n _ a em ha
      exact .base (.dK h1)
    · cases e
  | _ => cases e
theorem tyOf_in {d : D} {u : String} (e : tyOf m d = some u) : u ∈ (["NoneType", "bool", "int", "str", "tuple", "list", "dict"] : List String) := by
  cases d with
  | ref n =>
    have e : (match m[n]? with | some (Cell.lst _) => some "list" | some (Cell.dct _ _) => some "dict" | _ => none) = some u := e
    split at e <;> cases e <;> decide
  | _ => cases e <;> decide
theorem evCmp_bl {op : CmpOp} {d e z : D} {m m' : Sto} (h : evCmp op d e m = .ok z m') : ∃ b, z = .bl b := by
  have hb : ∀ {o : Option Bool}, bRes m o = .ok z m' → ∃ b, z = .bl b := by
    intro o h
    cases o with
    | none => cases h
    | some b => cases h; exact ⟨b, rfl⟩
  unfold evCmp at h
  split at h
  case h_1 => exact hb h
  case h_2 => exact hb h
  case h_7 => exact hb h
  case h_8 => exact hb h
  all_goals (split at h <;> first | (cases h; exact ⟨_, rfl⟩) | cases h)
theorem GE.bl {x : Res D} {Q : VK} {P : Bool → Hp → Prop} (g : GB K Z r H (x.bind evTru) P E) (hb : ∀ z m', x = .ok z m' → ∃ b, z = .bl b) : GE K Z r H x (fun v H1 => ∃ k, v = .bl k ∧ P k H1) E := by
  cases x with
  | ok d m =>
    obtain ⟨b, rfl⟩ := hb d m rfl
    intro v H2 r2 e2 s h
    exact ⟨b, h.bl_inv, g H2 r2 e2 s⟩
  | exc c es m => exact g
  | stuck => exact g
end
section
variable {X : Cx} {W : WX} {N : List Str} {sc : Scope} {a b c e o : PySem.Expr} {es rest : List PySem.Expr} {fa fb fc : Env → Sto → Res D} {fs : Env → Sto → Res (List D)} {pos : Pos}
theorem tE_const {K : PySem.W.Frag} {d : D} {v : V} (hv : ∀ Z r H, VR K Z r H d v) {σ : L2.St} {H : Hp} {Q : VK} (h : tE K W (fun _ m => .ok d m) σ H Q) : tC v σ H Q := by
  obtain ⟨Z, r, δ, m, rs, g⟩ := h
  exact g.now rs.sr (hv _ _ _)
theorem r_var (S : SX X W N sc) {i : Nat} {x : Str} (hN : N[i]? = some x) (hv : visB sc x = true) (h1 : (x == ("__debug__" : Str)) = false) (h2 : (x == ("__classdict__" : Str)) = false) :
    PE X (.Name x pos) (tE X.K W fun d m => (match d[i]? with
    | some (some v) => .ok v m
    | _ => .stuck)) := by
  refine (pe_var (i := i) (by rw [S.hN]; exact hN) (by rw [S.hs]; exact vis_of hv) h1 h2).imp fun σ H Q h => ?_
  obtain ⟨Z, r, δ, m, rs, g⟩ := h
  dsimp only at g
  split at g
  · rename_i d ed
    obtain ⟨v, h1, h2⟩ := rs.vs i d ed
    exact ⟨v, h1, g.now rs.sr h2⟩
  · exact g.elim
theorem r_glo (S : SX X W N sc) {x : Str} {d : D} (hg : gloB sc x = true) (hk : GloOk (gw X) x d) : PE X (.Name x pos) (tE X.K W fun _ m => .ok d m) := by
  obtain ⟨_, v, u, hm, hr, hv⟩ := hk
  exact (pe_glob (S.gl hg) hm hr (glo_of hg).2.1).imp fun σ H Q h => tE_const hv h
theorem r_bin {op : Operator} (ha : PE X a (tE X.K W fa)) (hb : PE X b (tE X.K W fb)) : PE X (.BinOp a op b pos) (tE X.K W fun d m => (fa d m).bind fun x m1 => (fb d m1).bind fun y m2 => evBin op x y m2) :=
  (pe_op (bin_ok op) ha hb).imp fun σ H Q h => tE_two h fun _ _ _ _ q => q
theorem r_neg (ha : PE X a (tE X.K W fa)) : PE X (.UnaryOp .USub a pos) (tE X.K W fun d m => (fa d m).bind fun x m1 => (match x with
    | .int i => .ok (.int (-i)) m1
    | _ => .stuck)) :=
  (pe_un un_neg ha).imp fun σ H Q h => tE_step h fun Z r δ m d v H1 rs hv g => by
    split at g
    · obtain rfl := hv.int_inv
      exact ⟨_, rfl, g.now rs.sr .intI⟩
    · exact g.elim
theorem r_nt (ha : PE X a (tE X.K W fa)) : PE X (.UnaryOp .Not a pos) (tE X.K W fun d m => (fa d m).bind fun x m1 => (evTru x m1).bind fun b m2 => .ok (.bl (!b)) m2) :=
  (pe_notT ha).imp fun σ H Q h => tE_step h fun Z r δ m d v H1 rs hv g => by
    obtain ⟨k, _, hk, g⟩ := g.tru rs.sr hv
    exact ⟨k, hk, g.now rs.sr .blI⟩
theorem r_and2 (ha : PE X a (tE X.K W fa)) (hb : PE X (.BoolOp .And (b :: rest) pos) (tE X.K W fb)) :
    PE X (.BoolOp .And (a :: b :: rest) pos) (tE X.K W fun d m => (fa d m).bind fun x m1 => (evTru x m1).bind fun k m2 => if k = true then fb d m2 else .ok x m2) :=
  (pe_andT ha hb).imp fun σ H Q h => by
    obtain ⟨Z, r, δ, m, rs, g0⟩ := h
    refine ⟨Z, r, δ, m, rs, g0.bind.mono fun v H1 ⟨r1, d, m1, e1, s1, h1, _, g1⟩ => ?_⟩
    obtain ⟨k, _, hk, g⟩ := g1.tru s1 h1
    refine ⟨k, hk, ?_⟩
    cases k with
    | true => rw [if_pos rfl] at g ⊢; exact ⟨Z, r1, δ, m1, rs.ext e1 s1, g⟩
    | false => rw [if_neg Bool.false_ne_true] at g ⊢; exact g.now s1 h1
theorem r_or2 (ha : PE X a (tE X.K W fa)) (hb : PE X (.BoolOp .Or (b :: rest) pos) (tE X.K W fb)) :
    PE X (.BoolOp .Or (a :: b :: rest) pos) (tE X.K W fun d m => (fa d m).bind fun x m1 => (evTru x m1).bind fun k m2 => if k = true then .ok x m2 else fb d m2) :=
  (pe_orT ha hb).imp fun σ H Q h => by
    obtain ⟨Z, r, δ, m, rs, g0⟩ := h
    refine ⟨Z, r, δ, m, rs, g0.bind.mono fun v H1 ⟨r1, d, m1, e1, s1, h1, _, g1⟩ => ?_⟩
    obtain ⟨k, _, hk, g⟩ := g1.tru s1 h1
    refine ⟨k, hk, ?_⟩
    cases k with
    | true => rw [if_pos rfl] at g ⊢; exact g.now s1 h1
    | false => rw [if_neg Bool.false_ne_true] at g ⊢; exact ⟨Z, r1, δ, m1, rs.ext e1 s1, g⟩
theorem cmp_imp {op : CmpOp} {σ : L2.St} {H : Hp} {Q : VK} (h : tE X.K W (fun d m => (fa d m).bind fun x m1 => (fb d m1).bind fun y m2 => evCmp op x y m2) σ H Q) : tOp (rB X.K (evCmp op)) (tE X.K W fa) (tE X.K W fb) σ H Q :=
  tE_two h fun _ _ _ _ q => q
theorem r_cmp {op : CmpOp} (hu : X.A.units + 65 < cLine) (ha : PE X a (tE X.K W fa)) (hb : PE X b (tE X.K W fb)) (hm : behindInMarks op b = false) :
    PE X (.Compare a [op] [b] pos) (tE X.K W fun d m => (fa d m).bind fun x m1 => (fb d m1).bind fun y m2 => evCmp op x y m2) :=
  (pe_cmpR (cmp_ok hu op) ha hb hm).imp fun σ H Q h => cmp_imp h
theorem bind_bl {f : Env → Sto → Res D} {g : D → Sto → Res D} (hg : ∀ x m z m', g x m = .ok z m' → ∃ b, z = .bl b) {x : Res D} {z : D} {m' : Sto} (h : x.bind g = .ok z m') : ∃ b, z = .bl b := by
  cases x with
  | ok d m => exact hg _ _ _ _ h
  | exc c es m => cases h
  | stuck => cases h
theorem r_cmpT {op : CmpOp} (hu : X.A.units + 65 < cLine) (ha : PE X a (tE X.K W fa)) (hb : PE X b (tE X.K W fb)) (hm : behindInMarks op b = false) :
    PT X (.Compare a [op] [b] pos) (tT X.K W fun d m => ((fa d m).bind fun x m1 => (fb d m1).bind fun y m2 => evCmp op x y m2).bind evTru) :=
  (pt_cmpR (cmp_ok hu op) ha hb hm).imp fun σ H Q h => by
    obtain ⟨Z, r, δ, m, rs, g0⟩ := h
    exact cmp_imp ⟨Z, r, δ, m, rs, GE.bl (Q := fun _ _ => True) g0 fun z m' e => bind_bl (f := fa) (fun x m z m' e => bind_bl (f := fa) (fun y m z m' e => evCmp_bl e) e) e⟩
def chnF (o1 o2 : CmpOp) (fa fb fc : Env → Sto → Res D) : Env → Sto → Res D := fun d m => (fa d m).bind fun x m1 => (fb d m1).bind fun y m2 => (evCmp o1 x y m2).bind fun z m3 => (match z with
    | .bl true => (fc d m3).bind fun w m4 => evCmp o2 y w m4
    | .bl false => .ok (.bl false) m3
    | _ => .stuck)
theorem chn_imp {o1 o2 : CmpOp} {σ : L2.St} {H : Hp} {Q : VK} (h : tE X.K W (chnF o1 o2 fa fb fc) σ H Q) : tChain (rB X.K (evCmp o1)) (rB X.K (evCmp o2)) (tE X.K W fa) (tE X.K W fb) (tE X.K W fc) σ H Q := by
  obtain ⟨Z, r, δ, m, rs, g0⟩ := h
  refine ⟨Z, r, δ, m, rs, g0.bind.mono fun v H1 ⟨r1, d, m1, e1, s1, h1, _, g1⟩ => ?_⟩
  refine ⟨Z, r1, δ, m1, rs.ext e1 s1, g1.bind.mono fun u H2 ⟨r2, e, m2, e2, s2, h2, _, g2⟩ => ?_⟩
  refine ⟨Z, r2, m2, d, e, _, s2, h1.ext e2, h2, g2.bind.mono fun z H3 ⟨r3, f, m3, e3, s3, h3, _, g3⟩ => ?_⟩
  split at g3
  · refine ⟨true, h3.bl_inv, ?_⟩
    rw [if_pos rfl]
    refine ⟨Z, r3, δ, m3, ((rs.ext e1 s1).ext e2 s2).ext e3 s3, g3.bind.mono fun w H4 ⟨r4, y, m4, e4, s4, h4, _, g4⟩ => ?_⟩
    exact ⟨Z, r4, m4, e, y, _, s4, (h2.ext e3).ext e4, h4, g4⟩
  · refine ⟨false, h3.bl_inv, ?_⟩
    rw [if_neg Bool.false_ne_true]
    exact g3.now s3 .blI
  · exact g3.elim
theorem chn_bl {o1 o2 : CmpOp} {d : Env} {m : Sto} {z : D} {m' : Sto} (h : chnF o1 o2 fa fb fc d m = .ok z m') : ∃ b, z = .bl b := by
  refine bind_bl (f := fa) (fun x m z m' e => bind_bl (f := fa) (fun y m z m' e => bind_bl (f := fa) (fun w m z m' e => ?_) e) e) h
  split at e
  · exact bind_bl (f := fa) (fun x m z m' e => evCmp_bl e) e
  · cases e; exact ⟨_, rfl⟩
  · cases e
theorem r_chn {o1 o2 : CmpOp} (hu : X.A.units + 65 < cLine) (ha : PE X a (tE X.K W fa)) (hb : PE X b (tE X.K W fb)) (hc : PE X c (tE X.K W fc)) (hm : lastMarks [o1, o2] [b, c] = false) :
    PE X (.Compare a [o1, o2] [b, c] pos) (tE X.K W (chnF o1 o2 fa fb fc)) :=
  (pe_chain (cmp_ok hu o1) (cmp_ok hu o2) ha hb hc hm).imp fun σ H Q h => chn_imp h
theorem r_chnT {o1 o2 : CmpOp} (hu : X.A.units + 65 < cLine) (ha : PE X a (tE X.K W fa)) (hb : PE X b (tE X.K W fb)) (hc : PE X c (tE X.K W fc)) (hm : lastMarks [o1, o2] [b, c] = false) :
    PT X (.Compare a [o1, o2] [b, c] pos) (tT X.K W fun d m => (chnF o1 o2 fa fb fc d m).bind evTru) :=
  (pt_chain (cmp_ok hu o1) (cmp_ok hu o2) ha hb hc hm).imp fun σ H Q h => by
    obtain ⟨Z, r, δ, m, rs, g0⟩ := h
    exact chn_imp ⟨Z, r, δ, m, rs, GE.bl (Q := fun _ _ => True) g0 fun z m' e => chn_bl e⟩
theorem r_ite (hc : PT X c (tT X.K W fun d m => (fc d m).bind evTru)) (ha : PE X a (tE X.K W fa)) (hb : PE X b (tE X.K W fb)) :
    PE X (.IfExp c a b pos) (tE X.K W fun d m => (fc d m).bind fun x m1 => (evTru x m1).bind fun k m2 => if k = true then fa d m2 else fb d m2) :=
  (pe_ifExp hc ha hb).imp fun σ H Q h => by
    obtain ⟨Z, r, δ, m, rs, g0⟩ := h
    dsimp only at g0
    refine ⟨Z, r, δ, m, rs, ?_⟩
    have key : GE X.K Z r H (((fc δ m).bind evTru).bind fun k m2 => if k = true then fa δ m2 else fb δ m2) Q (EW W σ) := by
      cases q : fc δ m with
      | ok d m1 => rw [q] at g0; exact g0
      | exc c es m => rw [q] at g0; exact g0
      | stuck => rw [q] at g0; exact g0
    refine key.bindB.mono fun k H1 ⟨r1, m1, e1, s1, _, g1⟩ => ?_
    cases k with
    | true => rw [if_pos rfl] at g1 ⊢; exact ⟨Z, r1, δ, m1, rs.ext e1 s1, g1⟩
    | false => rw [if_neg Bool.false_ne_true] at g1 ⊢; exact ⟨Z, r1, δ, m1, rs.ext e1 s1, g1⟩
/-! tests -/
theorem r_tst (ha : PE X a (tE X.K W fa)) (he : ∀ whole, isTrue a X.env whole = (do let v ← whole; standAt a.pos; holding [v] (truthy v))) : PT X a (tT X.K W fun d m => (fa d m).bind evTru) :=
  (pt_truth ha he).imp fun σ H Q h => tE_tru h
theorem r_ntT (ha : PT X a (tT X.K W fun d m => (fa d m).bind evTru)) : PT X (.UnaryOp .Not a pos) (tT X.K W fun d m => ((fa d m).bind fun x m1 => (evTru x m1).bind fun b m2 => .ok (.bl (!b)) m2).bind evTru) :=
  (pt_not ha).imp fun σ H Q h => by
    obtain ⟨Z, r, δ, m, rs, g0⟩ := h
    dsimp only at g0
    refine ⟨Z, r, δ, m, rs, ?_⟩
    have key : GB X.K Z r H (((fa δ m).bind evTru).bind fun k m2 => .ok (!k) m2) Q (EW W σ) := by
      cases q : fa δ m with
      | ok d m1 =>
        rw [q] at g0
        have g0 : GB X.K Z r H (((evTru d m1).bind fun b m2 => .ok (.bl (!b)) m2).bind evTru) Q (EW W σ) := g0
        show GB X.K Z r H ((evTru d m1).bind fun k m2 => .ok (!k) m2) Q (EW W σ)
        cases q2 : evTru d m1 with
        | ok b m2 => rw [q2] at g0; exact g0
        | exc c es m => rw [q2] at g0; exact g0
        | stuck => rw [q2] at g0; exact g0
      | exc c es m => rw [q] at g0; exact g0
      | stuck => rw [q] at g0; exact g0
    exact key.bindB.mono fun k H1 ⟨r1, m1, e1, s1, _, g1⟩ => g1.now s1
theorem r_and2T (ha : PT X a (tT X.K W fun d m => (fa d m).bind evTru)) (hb : PW X (.BoolOp .And (b :: rest) pos) (tT X.K W fun d m => (fb d m).bind evTru)) :
    PW X (.BoolOp .And (a :: b :: rest) pos) (tT X.K W fun d m => ((fa d m).bind fun x m1 => (evTru x m1).bind fun k m2 => if k = true then fb d m2 else .ok x m2).bind evTru) :=
  (pw_and ha hb).imp fun σ H Q h => by
    obtain ⟨Z, r, δ, m, rs, g0⟩ := h
    dsimp only at g0
    refine ⟨Z, r, δ, m, rs, ?_⟩
    have key : GB X.K Z r H (((fa δ m).bind evTru).bind fun k m2 => if k = true then (fb δ m2).bind evTru else .ok false m2) Q (EW W σ) := by
      cases q : fa δ m with
      | ok d m1 =>
        rw [q] at g0
        have g0 : GB X.K Z r H (((evTru d m1).bind fun k m2 => if k = true then fb δ m2 else .ok d m2).bind evTru) Q (EW W σ) := g0
        show GB X.K Z r H ((evTru d m1).bind fun k m2 => if k = true then (fb δ m2).bind evTru else .ok false m2) Q (EW W σ)
        unfold evTru at g0 ⊢
        cases q2 : truth m1 d with
        | none => rw [q2] at g0; exact g0
        | some k =>
          rw [q2] at g0
          cases k with
          | true => exact g0
          | false =>
            have g0 : GB X.K Z r H (match truth m1 d with
              | some b => .ok b m1
              | none => .stuck) Q (EW W σ) := g0
            rw [q2] at g0; exact g0
      | exc c es m => rw [q] at g0; exact g0
      | stuck => rw [q] at g0; exact g0
    refine key.bindB.mono fun k H1 ⟨r1, m1, e1, s1, _, g1⟩ => ?_
    cases k with
    | true => rw [if_pos rfl] at g1 ⊢; exact ⟨Z, r1, δ, m1, rs.ext e1 s1, g1⟩
    | false => rw [if_neg Bool.false_ne_true] at g1 ⊢; exact g1.now s1
theorem r_or2T (ha : PT X a (tT X.K W fun d m => (fa d m).bind evTru)) (hb : PW X (.BoolOp .Or (b :: rest) pos) (tT X.K W fun d m => (fb d m).bind evTru)) :
    PW X (.BoolOp .Or (a :: b :: rest) pos) (tT X.K W fun d m => ((fa d m).bind fun x m1 => (evTru x m1).bind fun k m2 => if k = true then .ok x m2 else fb d m2).bind evTru) :=
  (pw_or ha hb).imp fun σ H Q h => by
    obtain ⟨Z, r, δ, m, rs, g0⟩ := h
    dsimp only at g0
    refine ⟨Z, r, δ, m, rs, ?_⟩
    have key : GB X.K Z r H (((fa δ m).bind evTru).bind fun k m2 => if k = true then .ok true m2 else (fb δ m2).bind evTru) Q (EW W σ) := by
      cases q : fa δ m with
      | ok d m1 =>
        rw [q] at g0
        have g0 : GB X.K Z r H (((evTru d m1).bind fun k m2 => if k = true then .ok d m2 else fb δ m2).bind evTru) Q (EW W σ) := g0
        show GB X.K Z r H ((evTru d m1).bind fun k m2 => if k = true then .ok true m2 else (fb δ m2).bind evTru) Q (EW W σ)
        unfold evTru at g0 ⊢
        cases q2 : truth m1 d with
        | none => rw [q2] at g0; exact g0
        | some k =>
          rw [q2] at g0
          cases k with
          | false => exact g0
          | true =>
            have g0 : GB X.K Z r H (match truth m1 d with
              | some b => .ok b m1
              | none => .stuck) Q (EW W σ) := g0
            rw [q2] at g0; exact g0
      | exc c es m => rw [q] at g0; exact g0
      | stuck => rw [q] at g0; exact g0
    refine key.bindB.mono fun k H1 ⟨r1, m1, e1, s1, _, g1⟩ => ?_
    cases k with
    | true => rw [if_pos rfl] at g1 ⊢; exact g1.now s1
    | false => rw [if_neg Bool.false_ne_true] at g1 ⊢; exact ⟨Z, r1, δ, m1, rs.ext e1 s1, g1⟩
/-! lists of expressions -/
theorem r_nil : PA X [] (tA X.K W fun _ m => .ok [] m) := pa_nil.imp fun σ H Q ⟨Z, r, δ, m, rs, g⟩ => g _ _ _ (.refl _ _) rs.sr .nil
theorem r_cons (ha : PE X a (tE X.K W fa)) (hr : PA X es (tA X.K W fs)) (hs : notStar a = true) : PA X (a :: es) (tA X.K W fun d m => (fa d m).bind fun x m1 => (fs d m1).bind fun xs m2 => .ok (x :: xs) m2) :=
  (pa_cons ha hr (star1 hs)).imp fun σ H Q ⟨Z, r, δ, m, rs, g0⟩ => by
    refine ⟨Z, r, δ, m, rs, g0.bind.mono fun v H1 ⟨r1, d, m1, e1, s1, h1, _, g1⟩ => ?_⟩
    refine ⟨Z, r1, δ, m1, rs.ext e1 s1, g1.bindA.mono fun vs H2 ⟨r2, ds, m2, e2, s2, h2, _, g2⟩ => ?_⟩
    exact g2 _ _ _ (.refl _ _) s2 (.cons (h1.ext e2) h2)
theorem r_tup {k : Nat} (h : PA X es (tA X.K W fs)) : PE X (.Tuple es k pos) (tE X.K W fun d m => (fs d m).bind fun vs m1 => if vs.length < 1000 then .ok (.tup vs) m1 else .stuck) :=
  (pe_tup h).imp fun σ H Q h => tA_step h fun Z r δ m ds vs H1 rs hv g => by
    split at g
    · rename_i hl
      exact ⟨by rw [hv.length, ← size16]; omega, fun p hp => g.tup rs.sr hv hp⟩
    · exact g.elim
theorem r_lst (h : PA X es (tA X.K W fs)) : PE X (.List es pos) (tE X.K W fun d m => (fs d m).bind fun vs m1 => if vs.length < 1000 then .ok (.lst vs) m1 else .stuck) :=
  (pe_lst h).imp fun σ H Q h => tA_step h fun Z r δ m ds vs H1 rs hv g => by
    split at g
    · rename_i hl
      exact ⟨by rw [hv.length, ← size16]; omega, fun p hp => g.lst rs.sr hv hp⟩
    · exact g.elim
theorem r_lstM (h : PA X es (tA X.K W fs)) : PE X (.List es pos) (tE X.K W fun d m => (fs d m).bind fun vs m1 => if vs.length < 1000 then .ok (.ref m1.length) (m1 ++ [.lst vs]) else .stuck) :=
  (pe_lst h).imp fun σ H Q h => tA_step h fun Z r δ m ds vs H1 rs hv g => by
    split at g
    · rename_i hl
      exact ⟨by rw [hv.length, ← size16]; omega, fun p hp => g.cell rs.sr hv hp⟩
    · exact g.elim
/-! subscripts -/
theorem r_idx (ha : PE X a (tE X.K W fa)) (hb : PE X b (tE X.K W fb)) (hs : notSlice b = true) : PE X (.Subscript a b pos) (tE X.K W fun d m => (fa d m).bind fun x m1 => (fb d m1).bind fun y m2 => evIdx x y m2) :=
  (pe_ix ix_ok ha hb (plainIx hs)).imp fun σ H Q h => tE_two h fun _ _ _ _ q => q
theorem r_get (hu : X.A.units + 1 < cLine) (ha : PE X a (tE X.K W fa)) (hb : PE X b (tE X.K W fb)) (hs : notSlice b = true) : PE X (.Subscript a b pos) (tE X.K W fun d m => (fa d m).bind fun x m1 => (fb d m1).bind fun y m2 => evGet x y m2) :=
  (pe_dget hu ha hb (plainIx hs)).imp fun σ H Q ⟨Z, r, δ, m, rs, g0⟩ => by
    refine ⟨Z, r, δ, m, rs, g0.bind.mono fun v H1 ⟨r1, d, m1, e1, s1, h1, _, g1⟩ => ?_⟩
    refine ⟨Z, r1, δ, m1, rs.ext e1 s1, g1.bind.mono fun u H2 ⟨r2, e, m2, e2, s2, h2, _, g2⟩ => ?_⟩
    unfold evGet at g2
    split at g2
    · rename_i ks ds k em ek
      split at g2
      · rename_i w ew
        obtain ⟨p, ys, rfl, hH, hl, hys⟩ := s2.dctR (h1.ext e2) em
        have q := valV_look (k := k) hl hys
        rw [ew] at q
        obtain ⟨z, z1, z2⟩ := q
        obtain rfl := asKey_kV h2 ek
        exact ⟨p, z, rfl, by rw [← z1]; exact .inl ⟨_, k, hH, rfl, rfl⟩, g2.now s2 z2⟩
      · exact g2.elim
    · exact g2.elim
theorem slc_imp {l u : Option Int} {Z : PZ} {r : List Addr} {H : Hp} {m : Sto} {d : D} {v : V} {Q : VK} {E : XK} (s : SR X.K Z r H m) (h : VR X.K Z r H d v) (g : GE X.K Z r H (evSlc d l u m) Q E) : rS X.K evSlc v l u H Q := ⟨Z, r, m, d, E, s, h, g⟩
def poF (K : PySem.W.Frag) (W : WX) (f : Env → Sto → Res (List D)) : TO := fun σ H Q => ∃ Z r δ m, RS K Z r H σ δ m ∧ GA K Z r H (f δ m) (fun vs H1 => ∃ o, (vs = [] ∧ o = none ∨ ∃ i, vs = [.int i] ∧ o = some i) ∧ Q o H1) (EW W σ)
theorem po_nil : PO X none (poF X.K W fun _ m => .ok [] m) := by
  refine ⟨fun pins s σ H Q I h => po_none.run pins s σ H Q I ?_⟩
  obtain ⟨Z, r, δ, m, rs, g⟩ := h
  obtain ⟨o, h1 | ⟨i, h1, _⟩, q⟩ := g [] H r (.refl _ _) rs.sr .nil
  · rw [h1.2] at q; exact q
  · cases h1
theorem po_one (ha : PE X a (tE X.K W fa)) : PO X (some a) (poF X.K W fun d m => (fa d m).bind fun x m1 => (Res.ok [] m1).bind fun xs m2 => .ok (x :: xs) m2) := by
  refine ⟨fun pins s σ H Q I h => (po_some ha).run pins s σ H Q I ?_⟩
  obtain ⟨Z, r, δ, m, rs, g⟩ := h
  refine ⟨Z, r, δ, m, rs, g.bind.mono fun v H1 ⟨r1, d, m1, e1, s1, h1, _, g1⟩ => ?_⟩
  obtain ⟨o, h2 | ⟨i, h2, h3⟩, q⟩ := g1 [v] H1 r1 (.refl _ _) s1 (.cons h1 .nil)
  · cases h2.1
  · cases h2; subst h3; exact ⟨i, rfl, q⟩
theorem GE.part {K : PySem.W.Frag} {Z : PZ} {r : List Addr} {H : Hp} {l : List D} {vs : List V} {k : Option Int → Res D} {Q : VK} {E : XK} (h : VRs K Z r H l vs) (g : GE K Z r H (toPart l k) Q E) :
    ∃ o, (vs = [] ∧ o = none ∨ ∃ i, vs = [.int i] ∧ o = some i) ∧ GE K Z r H (k o) Q E := by
  unfold toPart at g
  split at g
  · exact ⟨none, .inl ⟨h.inv_nil, rfl⟩, g⟩
  · rename_i i
    obtain ⟨x, rfl, hx⟩ := h.one
    obtain rfl := hx.int_inv
    exact ⟨some i, .inr ⟨i, rfl, rfl⟩, g⟩
  · exact g.elim
theorem r_slc {lo hi : Option PySem.Expr} {p2 : Pos} {fl fh : Env → Sto → Res (List D)} (ha : PE X a (tE X.K W fa)) (hl : PO X lo (poF X.K W fl)) (hh : PO X hi (poF X.K W fh)) :
    PE X (.Subscript a (.Slice lo hi none p2) pos) (tE X.K W fun d m => (fa d m).bind fun x m1 => (fl d m1).bind fun l m2 => toPart l fun u => (fh d m2).bind fun h m3 => toPart h fun w => evSlc x u w m3) :=
  (pe_slice slc_ok ha hl hh).imp fun σ H Q ⟨Z, r, δ, m, rs, g0⟩ => by
    refine ⟨Z, r, δ, m, rs, g0.bind.mono fun v H1 ⟨r1, d, m1, e1, s1, h1, _, g1⟩ => ?_⟩
    refine ⟨Z, r1, δ, m1, rs.ext e1 s1, g1.bindA.mono fun vs H2 ⟨r2, l, m2, e2, s2, h2, _, g2⟩ => ?_⟩
    obtain ⟨u, hu, g2⟩ := g2.part h2
    refine ⟨u, hu, Z, r2, δ, m2, (rs.ext e1 s1).ext e2 s2, g2.bindA.mono fun ws H3 ⟨r3, h, m3, e3, s3, h3, _, g3⟩ => ?_⟩
    obtain ⟨w, hw, g3⟩ := g3.part h3
    exact ⟨w, hw, slc_imp s3 ((h1.ext e2).ext e3) g3⟩
theorem r_rev {k : Nat} {p1 p2 p3 : Pos} (ha : PE X a (tE X.K W fa)) : PE X (.Subscript a (.Slice none none (some (.UnaryOp .USub (.Constant (.int 1) k p1) p2)) p3) pos) (tE X.K W fun d m => (fa d m).bind evRev) := by
  refine ⟨fun pins s σ H Q I ⟨Z, r, δ, m, rs, g⟩ => ?_⟩
  by_cases hc : ∃ ds m1, fa δ m = .ok (.tup ds) m1
  · obtain ⟨es, m1, ec⟩ := hc
    refine (pe_revT ha).run pins s σ H Q I ⟨Z, r, δ, m, rs, g.bind.mono fun v H1 ⟨r1, d, m1, e1, s1, h1, eq, g1⟩ => ?_⟩
    rw [ec] at eq
    cases eq
    obtain ⟨p, xs, rfl, hp, hs⟩ := h1.tup_inv
    exact ⟨p, xs, rfl, hp.sq, fun q hq => GE.tup (ds := es.reverse) g1 s1 hs.rev hq⟩
  · refine (pe_revL ha).run pins s σ H Q I ⟨Z, r, δ, m, rs, g.bind.mono fun v H1 ⟨r1, d, m1, e1, s1, h1, eq, g1⟩ => ?_⟩
    unfold evRev at g1
    split at g1
    · exact absurd ⟨_, _, eq⟩ hc
    · split at g1
      · rename_i ds ed
        obtain ⟨p, xs, rfl, h1, h2⟩ := s1.lstR h1 ed
        exact ⟨p, xs, rfl, h1, fun q hq => g1.lst s1 h2.rev hq⟩
      · exact g1.elim
/-! built-in functions, methods -/
theorem bf_boot (b : Bf) : bootBuiltins b.name = some b.val ∧ b.name ≠ "__name__" := by
  cases b <;> exact ⟨by decide +kernel, by decide +kernel⟩
theorem r_bf (S : SX X W N sc) {b : Bf} {p : Pos} (hm : X.mg b.name = none) (hg : gloB sc b.name = true) (ha : PA X (e :: es) (tA X.K W fs)) (hs : ∀ x ∈ e :: es, notStar x = true) :
    PE X (.Call (.Name b.name p) (e :: es) [] pos) (tE X.K W fun d m => (fs d m).bind fun vs m1 => evBf b vs m1) := by
  have key : PE X (.Call (.Name b.name p) (e :: es) [] pos) (tCB (rC X.K (evBf b)) (tA X.K W fs)) := by
    have h1 := star1 (es := es) (env := X.env) (hs e List.mem_cons_self)
    have h2 := star_all (env := X.env) (pos := pos) (fun x hx => hs x (List.mem_cons_of_mem _ hx))
    have hb := bf_ok (X := X) S.calm (by have := S.hu; omega) S.gd b
    have hv := bf_boot b
    cases b <;> first
      | exact pe_callB hb (S.gl hg) hm hv.1 ha hv.2 (glo_of hg).2.1 h1 h2
      | exact pe_callTy hb (S.gl hg) hm hv.1 ha hv.2 (glo_of hg).2.1 h1 h2
  exact key.imp fun σ H Q h => tA_step h fun Z r δ m ds vs H1 rs hv g => ⟨Z, r, m, ds, _, rs.sr, hv, g⟩
theorem r_tupR (S : SX X W N sc) {p p2 pos2 : Pos} (hm : X.mg "tuple" = none) (hm2 : X.mg "range" = none) (hg : gloB sc "tuple" = true) (hg2 : gloB sc "range" = true) (ha : PE X a (tE X.K W fa)) (hs : notStar a = true) :
    PE X (.Call (.Name "tuple" p) [.Call (.Name "range" p2) [a] [] pos2] [] pos) (tE X.K W fun d m => (fa d m).bind fun x m1 => (match x with
    | .int n => if 0 ≤ n ∧ n ≤ 100000 then .ok (.tup (rangeD 0 n.toNat)) m1 else .stuck
    | _ => .stuck)) :=
  (pe_tupRg S.calm (S.gl hg) hm (prg_1 (S.gl hg2) hm2 ha (star1 hs)) rfl).imp fun σ H Q h => tE_step h fun Z r δ m d v H1 rs hv g => by
    split at g
    · rename_i n
      split at g
      · rename_i hn
        obtain rfl := hv.int_inv
        refine ⟨n, rfl, RgOk.of_le (by omega) (by omega) (by omega) (by omega), fun q hq => g.tup rs.sr ?_ hq⟩
        unfold rangeD rgV
        rw [Int.sub_zero]
        exact VRs.rg 0 _
      · exact g.elim
    · exact g.elim
theorem VR.isi {K : PySem.W.Frag} {Z : PZ} {r : List Addr} {H : Hp} {m : Sto} {d : D} {v : V} (s : SR K Z r H m) (h : VR K Z r H d v) {c' : Str} {ns : List Str} {fs : List D} (e : insOf m d = some (c', ns, fs)) (i : InsTy K (He.ga K c')) : TyX K H v (.ref (He.ga K c')) := by
  obtain ⟨a, dx, xs, rfl, h1, _, _⟩ := s.ins h e
  exact .base (.ins h1 i.cl i.ha i.hn i.htk i.hm)
theorem r_isi (S : SX X W N sc) {t : Ty} {cs : List Str} {p p2 : Pos} (ok : IsiOk (gw X) t cs) (hg : gloB sc "isinstance" = true) (hg2 : gloB sc (tyName t) = true) (ha : PE X a (tE X.K W fa)) (hs : notStar a = true) :
    PE X (.Call (.Name "isinstance" p) [a, .Name (tyName t) p2] [] pos) (tE X.K W fun d m => (fa d m).bind fun x m1 => evIsi t cs x m1) := by
  obtain ⟨hm, ok⟩ := ok
  have hm : X.mg "isinstance" = none := hm
  cases t with
  | bi n =>
    obtain ⟨hm2, hb2, hcs⟩ := ok
    have hc : PE X (.Name (Str.ofString n) p2) (tC (.ty n)) := pe_bltn (S.gl hg2) hm2 hb2 rfl (glo_of hg2).2.2 (glo_of hg2).2.1
    refine (pe_callB call_isi (S.gl hg) hm PyProof.Rows.boot_isinstance (pa_cons ha (pa_cons hc pa_nil rfl) (star1 hs)) (by decide +kernel) (by decide +kernel) (star1 hs) rfl).imp fun σ H Q h => tE_step h fun Z r δ m d v H1 rs hv g => ?_
    unfold evIsi at g
    split at g
    · rename_i u eu
      obtain ⟨b, hk, q⟩ := bRes_some rs.sr g
      exact ⟨v, .ty n, .type u, .type n, b, rfl, .ty n, rs.sr.tyx hv eu, kit_ty hk, q⟩
    · split at g
      · rename_i c' ns fs ei
        split at g
        · rename_i hin
          obtain ⟨i1, i2⟩ := hcs c' hin
          exact ⟨v, .ty n, _, .type n, false, rfl, .ty n, hv.isi rs.sr ei i1, i2, g.now rs.sr .blI⟩
        · exact g.elim
      · exact g.elim
  | own c0 =>
    obtain ⟨hm2, hu, hcs⟩ := ok
    have hc : PE X (.Name c0 p2) (tC (.ref (He.ga X.K c0))) := pe_glob (S.gl hg2) hm2 rfl (glo_of hg2).2.1
    refine (pe_callB call_isi (S.gl hg) hm PyProof.Rows.boot_isinstance (pa_cons ha (pa_cons hc pa_nil rfl) (star1 hs)) (by decide +kernel) (by decide +kernel) (star1 hs) rfl).imp fun σ H Q h => tE_step h fun Z r δ m d v H1 rs hv g => ?_
    unfold evIsi at g
    split at g
    · rename_i u eu
      exact ⟨v, _, .type u, _, false, rfl, .own _, rs.sr.tyx hv eu, hu u (tyOf_in eu), g.now rs.sr .blI⟩
    · split at g
      · rename_i c' ns fs ei
        split at g
        · rename_i hin
          obtain ⟨i1, i2⟩ := hcs c' hin
          exact ⟨v, _, _, _, _, rfl, .own _, hv.isi rs.sr ei i1, i2, g.now rs.sr .blI⟩
        · exact g.elim
      · exact g.elim
theorem few_ok {env : PySem.Env} {es : List PySem.Expr} (hs : ∀ x ∈ es, notStar x = true) : (backTo pos (starEach es env)).all (fun x => !x.1) = true := by
  have h := star_all (env := env) (pos := pos) hs
  rw [List.any_eq_false] at h
  rw [List.all_eq_true]
  intro x hx
  have := h x hx
  simpa using this
theorem r_bm0 (S : SX X W N sc) {b : Bm} {apos : Pos} (ho : PE X o (tE X.K W fa)) (hn : noSup o = true) (hl : (apos.endLine == pos.line) = true) :
    PE X (.Call (.Attribute o b.name apos) [] [] pos) (tE X.K W fun d m => (fa d m).bind fun x m1 => if bmTy b x m1 = true then (Res.ok [] m1).bind fun vs m2 => evBm b x vs m2 else .stuck) := by
  have B := bm_ok (X := X) (show X.A.units + 65 < cLine by have := S.hu; omega) b
  refine (pe_bw0 B.pa B.slot B.hty B.run ho (base_ok hn) hl).imp fun σ H Q ⟨Z, r, δ, m, rs, g0⟩ => ?_
  refine ⟨Z, r, δ, m, rs, g0.bind.mono fun v H1 ⟨r1, d, m1, e1, s1, h1, _, g1⟩ => ?_⟩
  split at g1
  · rename_i ht
    exact ⟨s1.bmTy h1 ht, ⟨Z, r1, m1, d, [], _, s1, h1, .nil, g1⟩⟩
  · exact g1.elim
theorem r_bm (S : SX X W N sc) {b : Bm} {apos : Pos} (ho : PE X o (tE X.K W fa)) (hn : noSup o = true) (hl : (apos.endLine == pos.line) = true) (h20 : es.length < 20) (he : es = [] → False) (ha : PA X es (tA X.K W fs)) (hs : ∀ x ∈ es, notStar x = true) :
    PE X (.Call (.Attribute o b.name apos) es [] pos) (tE X.K W fun d m => (fa d m).bind fun x m1 => if bmTy b x m1 = true then (fs d m1).bind fun vs m2 => evBm b x vs m2 else .stuck) := by
  have B := bm_ok (X := X) (show X.A.units + 65 < cLine by have := S.hu; omega) b
  cases es with
  | nil => cases he rfl
  | cons e es =>
    refine (pe_bw B.pa B.slot B.hty B.run ho ha (base_ok hn) ?_ hl (star1 (hs e List.mem_cons_self)) (star_all fun x hx => hs x (List.mem_cons_of_mem _ hx))).imp fun σ H Q ⟨Z, r, δ, m, rs, g0⟩ => ?_
    · rw [few_ok hs]
      simp only [Bool.true_and, Bool.and_eq_true, decide_eq_true_eq]
      exact ⟨rfl, by simp at h20 ⊢; omega⟩
    refine ⟨Z, r, δ, m, rs, g0.bind.mono fun v H1 ⟨r1, d, m1, e1, s1, h1, _, g1⟩ => ?_⟩
    split at g1
    · rename_i ht
      refine ⟨s1.bmTy h1 ht, ⟨Z, r1, δ, m1, rs.ext e1 s1, g1.bindA.mono fun vs H2 ⟨r2, ds, m2, e2, s2, h2, _, g2⟩ => ?_⟩⟩
      exact ⟨Z, r2, m2, d, ds, _, s2, h1.ext e2, h2, g2⟩
    · exact g1.elim
theorem r_dctM : PE X (.Dict [] [] pos) (tE X.K W fun _ m => .ok (.ref m.length) (m ++ [.dct [] []])) :=
  pe_dnewK.imp fun σ H Q ⟨Z, r, δ, m, rs, g⟩ => fun p hp => by
    have e : Ext r H (r ++ [p]) (upd H p (.dK [])) := .cell hp
    refine g _ _ _ e (rs.sr.cell hp ⟨[], upd_same, rfl, .nil⟩) ?_
    rw [VR]
    refine ⟨p, rfl, ?_⟩
    rw [← rs.sr.len]; simp
end
end ME
set_option Elab.async false
set_option linter.all false
set_option maxRecDepth 100000
set_option maxHeartbeats 4000000
namespace ME
open PySem PySem.Spec PyProof.Rows L2
section
variable {X : Cx} {W : WX} {N : List Str} {sc : Scope} {a b c e o : PySem.Expr} {es rest : List PySem.Expr} {fa fb fc : Env → Sto → Res D} {fs : Env → Sto → Res (List D)} {pos : Pos}
/-! own functions -/
theorem FnAt.go {f : Addr} {F : Fn} (S : SX X W N sc) (A : FnAt (gw X) f F) {pins : List (Addr × Obj)} {σ : L2.St} {H : Hp} {s : Shared} {Q : VK} {us : List Value} {vs : List V} {Z : PZ} {r : List Addr} {m : Sto} {ds : List D}
    (I : Inv X pins σ H s) (rv : Vals vs us) (hs : SR X.K Z r H m) (hv : VRs X.K Z r H ds vs) (g : GE X.K Z r H (F ds m) Q (EW W σ)) : wpAny (model X.prog X.w) X.A (call (.ref f) us) (EP X pins σ Q) X.xe s := by
  obtain ⟨fd, ps, n, k, F0, dd, dvs, dsv, FG, hr, hb, hd, hdd, hF, hn⟩ := A.ex
  rw [hF] at g
  refine callG FG (hr.mono (Nat.le_succ k)) S.gd hb hd S.tk I rv ⟨Z, r, m, ds ++ dd, ?_, hs, hv.append (hdd _ _ _), g⟩
  by_cases h : (ds ++ dd).length = n
  · exact h
  · rw [hn _ m h] at g; exact g.elim
theorem r_call0 (S : SX X W N sc) {x : Str} {F : Fn} {p : Pos} (ok : CallOk (gw X) x F) (hg : gloB sc x = true) : PE X (.Call (.Name x p) [] [] pos) (tE X.K W fun d m => (Res.ok [] m).bind fun vs m1 => F vs m1) := by
  obtain ⟨f, hm, hk, A⟩ := ok
  refine ⟨fun pins s σ H Q I ⟨Z, r, δ, m, rs, g⟩ => ?_⟩
  refine wpAny_Call_Name_kw (ld_glob I (S.gl hg) hm ?_ (glo_of hg).2.1)
  exact PySem.W.callWith_K0 I.kIn hk (A.go S (us := []) I .nil rs.sr .nil g)
theorem r_call (S : SX X W N sc) {x : Str} {F : Fn} {p : Pos} (ok : CallOk (gw X) x F) (hg : gloB sc x = true) (ha : PA X (e :: es) (tA X.K W fs)) (hs : ∀ x ∈ e :: es, notStar x = true) :
    PE X (.Call (.Name x p) (e :: es) [] pos) (tE X.K W fun d m => (fs d m).bind fun vs m1 => F vs m1) := by
  obtain ⟨f, hm, hk, A⟩ := ok
  refine ⟨fun pins s σ H Q I h => ?_⟩
  refine wpAny_Call_Name_kw (ld_glob I (S.gl hg) hm ?_ (glo_of hg).2.1)
  have h' := tA_step h (R := fun vs H1 => ∃ Z r δ m ds, RS X.K Z r H1 σ δ m ∧ VRs X.K Z r H1 ds vs ∧ GE X.K Z r H1 (F ds m) Q (EW W σ)) fun Z r δ m ds vs H1 rs hv g => ⟨Z, r, δ, m, ds, rs, hv, g⟩
  refine PySem.W.callWith_K (h₀ := X.base) I.ok.mod.kin hk (thn (ha.run pos pins s σ H _ I h') fun us s1 ⟨vs, H1, I1, rv, Z, r, δ, m, ds, rs, hv, g⟩ => ⟨I1.kIn, ?_⟩) (star1 (hs e List.mem_cons_self)) (star_all fun x hx => hs x (List.mem_cons_of_mem _ hx))
  exact A.go S I1 rv rs.sr hv g
theorem VRs.pick {K : PySem.W.Frag} {Z : PZ} {r : List Addr} {H : Hp} {ds : List D} {xs : List V} (h : VRs K Z r H ds xs) : ∀ {perm : List Nat}, (∀ i ∈ perm, i < ds.length) → VRs K Z r H (pick perm ds) (pick perm xs)
  | [], _ => .nil
  | i :: perm, hp => by
    have hi := hp i List.mem_cons_self
    obtain ⟨x, h1, h2⟩ := h.get (List.getElem?_eq_getElem hi)
    unfold ME.pick
    rw [List.filterMap_cons_some (List.getElem?_eq_getElem hi), List.filterMap_cons_some h1]
    exact .cons h2 (VRs.pick h fun j hj => hp j (List.mem_cons_of_mem _ hj))
theorem vals_pick {vs : List V} {us : List Value} (h : Vals vs us) : ∀ {perm : List Nat}, (∀ i ∈ perm, i < us.length) → Vals (pick perm vs) (pick perm us)
  | [], _ => .nil
  | i :: perm, hp => by
    have hi := hp i List.mem_cons_self
    have hi2 : i < vs.length := by rw [h.length]; exact hi
    obtain ⟨u, h1, h2⟩ := h.get (List.getElem?_eq_getElem hi2)
    unfold ME.pick
    rw [List.filterMap_cons_some (List.getElem?_eq_getElem hi2), List.filterMap_cons_some h1]
    exact .cons h2 (vals_pick h fun j hj => hp j (List.mem_cons_of_mem _ hj))
theorem kw_names {env : PySem.Env} : ∀ {kws : List Keyword} {ks : List Str}, kws.map (·.arg) = ks.map some → (backToKw pos (keywordEach kws env)).all (·.1.isSome) = true ∧ (backToKw pos (keywordEach kws env)).filterMap (·.1) = ks ∧ (backToKw pos (keywordEach kws env)).any (·.1.isNone) = false
  | [], [], _ => ⟨rfl, rfl, rfl⟩
  | [], k :: ks, h => by cases h
  | ⟨a, v, p⟩ :: kws, [], h => by cases h
  | ⟨a, v, p⟩ :: kws, k :: ks, h => by
    rw [List.map_cons, List.map_cons] at h
    obtain ⟨h1, h2⟩ := List.cons.inj h
    obtain rfl : a = some k := h1
    obtain ⟨q1, q2, q3⟩ := kw_names (env := env) h2
    refine ⟨?_, ?_, ?_⟩
    · show (true && (backToKw pos (keywordEach kws env)).all (·.1.isSome)) = true
      rw [q1]; rfl
    · show k :: (backToKw pos (keywordEach kws env)).filterMap (·.1) = k :: ks
      rw [q2]
    · show (false || (backToKw pos (keywordEach kws env)).any (·.1.isNone)) = false
      rw [q3]; rfl
theorem k_nil : PK X [] (tA X.K W fun _ m => .ok [] m) := ⟨fun pos pins s σ H Q I ⟨Z, r, δ, m, rs, g⟩ => pk_nil.run pos pins s σ H Q I (g _ _ _ (.refl _ _) rs.sr .nil)⟩
theorem k_cons {kws : List Keyword} {nm : Option Str} {kpos : Pos} (ha : PE X a (tE X.K W fa)) (hr : PK X kws (tA X.K W fs)) : PK X (⟨nm, a, kpos⟩ :: kws) (tA X.K W fun d m => (fa d m).bind fun x m1 => (fs d m1).bind fun xs m2 => .ok (x :: xs) m2) := by
  refine ⟨fun pos pins s σ H Q I ⟨Z, r, δ, m, rs, g0⟩ => (pk_cons ha hr).run pos pins s σ H Q I ?_⟩
  refine ⟨Z, r, δ, m, rs, g0.bind.mono fun v H1 ⟨r1, d, m1, e1, s1, h1, _, g1⟩ => ?_⟩
  refine ⟨Z, r1, δ, m1, rs.ext e1 s1, g1.bindA.mono fun vs H2 ⟨r2, ds, m2, e2, s2, h2, _, g2⟩ => ?_⟩
  exact g2 _ _ _ (.refl _ _) s2 (.cons (h1.ext e2) h2)
theorem r_callK (S : SX X W N sc) {x : Str} {F : Fn} {ks : List Str} {perm : List Nat} {p : Pos} {kws : List Keyword} (ok : CallKOk (gw X) x F ks perm) (hg : gloB sc x = true) (hn : kws.map (·.arg) = ks.map some) (ha : PK X kws (tA X.K W fs)) :
    PE X (.Call (.Name x p) [] kws pos) (tE X.K W fun d m => (fs d m).bind fun vs m1 => if vs.length = ks.length then F (pick perm vs) m1 else .stuck) := by
  obtain ⟨f, fd, ps, n, k, hm, hk, FG, hr, hp, hb, hst⟩ := ok
  refine ⟨fun pins s σ H Q I h => ?_⟩
  refine wpAny_Call_Name_kw (ld_glob I (S.gl hg) hm ?_ (glo_of hg).2.1)
  have h' := tA_step h (R := fun vs H1 => ∃ Z r δ m ds, RS X.K Z r H1 σ δ m ∧ VRs X.K Z r H1 ds vs ∧ ds.length = ks.length ∧ GE X.K Z r H1 (F (pick perm ds) m) Q (EW W σ)) fun Z r δ m ds vs H1 rs hv g => by
    split at g
    · rename_i hl
      exact ⟨Z, r, δ, m, ds, rs, hv, hl, g⟩
    · exact g.elim
  obtain ⟨n1, n2, n3⟩ := kw_names (pos := pos) (env := X.env) hn
  refine PySem.W.callWith_KW0 (h₀ := X.base) I.ok.mod.kin hk n1 (thn (ha.run pos pins s σ H _ I h') fun ws s1 ⟨vs, H1, I1, rv, Z, r, δ, m, ds, rs, hv, hl, g⟩ => ⟨I1.kIn, ?_⟩) (by rw [n3]; rfl)
  rw [n2]
  have hlw : ws.length = ks.length := by rw [← rv.length, hv.length, hl]
  have hsp : spS X.K n F (pick perm vs) H1 Q (EW W σ) := by
    refine ⟨Z, r, m, pick perm ds, ?_, rs.sr, hv.pick (fun i hi => by rw [hl]; exact hp i hi), g⟩
    by_cases h : (pick perm ds).length = n
    · exact h
    · rw [hst _ _ h] at g; exact g.elim
  refine wpAny_call (codeAny_mono (FG.run X.A X.stack s1 H1 ⟨[], ks.zip ws⟩ (pick perm ws) (pick perm vs) Q _ (hr.mono (Nat.le_succ k)) S.gd I1.env0 (hb s1 ws hlw) (vals_pick rv fun i hi => by rw [hlw]; exact hp i hi) hsp) fun x s' hq => ?_)
  match x, hq with
  | .error e, hq => exact S.tk e s' (XE.of_call I1 (fun c d H' q => q) hq)
  | .ok (.ret u), hq => exact I1.after hq
  | .ok .next, hq => exact (show False from hq).elim
  | .ok .brk, hq => exact (show False from hq).elim
  | .ok .cont, hq => exact (show False from hq).elim
theorem meth_tree {m : Str} {apos : Pos} {env : PySem.Env} (hn : noSup o = true) (hl : (apos.endLine == pos.line) = true) (h20 : es.length < 20) (hs : ∀ x ∈ es, notStar x = true) :
    eval (.Call (.Attribute o m apos) es [] pos) env = (do
      let ov ← eval o env
      standAt apos.atName
      let (f, first) ← holding [ov] (getMethod ov m (plainOf o env))
      callWith pos f first (backTo pos (starEach es env)) (backToKw pos (keywordEach [] env))) := by
  refine mcall_of (base_ok hn) fun ov => mcall_line ?_ hl
  unfold methodCallForm
  rw [few_ok hs]
  show (true && true && decide (es.length + 0 + 0 < 30)) = true
  simp only [Bool.true_and, decide_eq_true_eq]
  omega
theorem r_mth0 (S : SX X W N sc) {cl mn : Str} {F : Fn} {apos : Pos} (ok : MthOk (gw X) cl mn F) (ho : PE X o (tE X.K W fa)) (hn : noSup o = true) (hl : (apos.endLine == pos.line) = true) :
    PE X (.Call (.Attribute o mn apos) [] [] pos) (tE X.K W fun d m => (fa d m).bind fun x m1 => if insIs cl mn x m1 = true then (Res.ok [] m1).bind fun vs m2 => F (x :: vs) m2 else .stuck) := by
  obtain ⟨f, hc, hme, A⟩ := ok
  refine ⟨fun pins s σ H Q I ⟨Z, r, δ, m, rs, g0⟩ => ?_⟩
  refine PySem.W.methodCall_KW (pl := plainOf o X.env) (thn (ho.run pins s σ H _ I ⟨Z, r, δ, m, rs, g0.bind⟩) fun u s1 ⟨x, H1, I1, rx, r1, d, m1, e1, sr1, h1, _, g1⟩ => ?_) (meth_tree hn hl (by simp) (by simp))
  split at g1
  · rename_i hi
    obtain ⟨ad, dx, fs', ex, ea, lk⟩ := sr1.insIs h1 hi
    subst ex
    obtain rfl : u = Value.ref ad := rx
    refine getmeth_ok I1 ea hc hme lk ?_
    exact PySem.W.callWith_K0 (first := [.ref ad]) I1.kIn hme.kp (A.go S (us := [.ref ad]) (vs := [V.ref ad]) I1 (.cons rfl .nil) sr1 (.cons h1 .nil) g1)
  · exact g1.elim
theorem r_mth (S : SX X W N sc) {cl mn : Str} {F : Fn} {apos : Pos} (ok : MthOk (gw X) cl mn F) (ho : PE X o (tE X.K W fa)) (hn : noSup o = true) (hl : (apos.endLine == pos.line) = true) (h20 : (e :: es).length < 20)
    (ha : PA X (e :: es) (tA X.K W fs)) (hs : ∀ x ∈ e :: es, notStar x = true) :
    PE X (.Call (.Attribute o mn apos) (e :: es) [] pos) (tE X.K W fun d m => (fa d m).bind fun x m1 => if insIs cl mn x m1 = true then (fs d m1).bind fun vs m2 => F (x :: vs) m2 else .stuck) := by
  obtain ⟨f, hc, hme, A⟩ := ok
  refine ⟨fun pins s σ H Q I ⟨Z, r, δ, m, rs, g0⟩ => ?_⟩
  refine PySem.W.methodCall_KW (pl := plainOf o X.env) (thn (ho.run pins s σ H _ I ⟨Z, r, δ, m, rs, g0.bind⟩) fun u s1 ⟨x, H1, I1, rx, r1, d, m1, e1, sr1, h1, _, g1⟩ => ?_) (meth_tree hn hl h20 hs)
  split at g1
  · rename_i hi
    obtain ⟨ad, dx, fs', ex, ea, lk⟩ := sr1.insIs h1 hi
    subst ex
    obtain rfl : u = Value.ref ad := rx
    refine getmeth_ok I1 ea hc hme lk ?_
    refine PySem.W.callWith_K (first := [.ref ad]) (h₀ := X.base) I.ok.mod.kin hme.kp (thn (ha.run pos pins s1 σ H1 _ I1 ⟨Z, r1, δ, m1, rs.ext e1 sr1, g1.bindA⟩) fun us s2 ⟨vs, H2, I2, rv, r2, ds, m2, e2, sr2, h2, _, g2⟩ => ⟨I2.kIn, ?_⟩)
      (star1 (hs e List.mem_cons_self)) (star_all fun x hx => hs x (List.mem_cons_of_mem _ hx))
    exact A.go S (us := .ref ad :: us) (vs := V.ref ad :: _) I2 (.cons rfl rv) sr2 (.cons (h1.ext e2) h2) g2
  · exact g1.elim
theorem new_go (S : SX X W N sc) {cl : Str} {F : Fn} {f : Addr} (M : Mk X.K (He.ga X.K cl) f) (A : FnAt (gw X) f F) {pins : List (Addr × Obj)} {σ : L2.St} {H : Hp} {s : Shared} {Q : VK} {us : List Value} {vs : List V} {Z : PZ} {r : List Addr} {m : Sto} {ds : List D}
    (I : Inv X pins σ H s) (rv : Vals vs us) (hs : SR X.K Z r H m) (hv : VRs X.K Z r H ds vs) (g : GE X.K Z r H (evNew cl F ds m) Q (EW W σ)) : wpAny (model X.prog X.w) X.A (call (.ref (He.ga X.K cl)) us) (EP X pins σ Q) X.xe s := by
  obtain ⟨fd, ps, n, k, F0, dd, dvs, dsv, FG, hr, hb, hd, hdd, hF, hn⟩ := A.ex
  refine makeG M FG hr S.gd hb hd S.tk I rv fun x dx hx hdx hne => ?_
  have e1 : Ext r H r (upd H dx (.own x)) := .obj hdx
  have s1 := hs.obj (o := .own x) hdx
  have hx1 : (upd H dx (.own x)) x = none := by rw [upd_ne (Ne.symm hne)]; exact hx
  have e2 : Ext r (upd H dx (.own x)) (r ++ [x]) (upd (upd H dx (.own x)) x (.ins (He.ga X.K cl) dx [])) := .cell hx1
  have s2 : SR X.K Z (r ++ [x]) (upd (upd H dx (.own x)) x (.ins (He.ga X.K cl) dx [])) (m ++ [.ins cl [] []]) := s1.cell hx1 ⟨dx, [], upd_same, rfl, .nil⟩
  have hself : VR X.K Z (r ++ [x]) (upd (upd H dx (.own x)) x (.ins (He.ga X.K cl) dx [])) (.ref m.length) (.ref x) := by
    rw [VR]
    refine ⟨x, rfl, ?_⟩
    rw [← hs.len]
    simp
  have g' := GE.ext (e1.trans e2) g
  unfold evNew at g'
  rw [hF] at g'
  refine ⟨Z, r ++ [x], _, .ref m.length :: ds ++ dd, ?_, s2, .cons hself ((hv.ext (e1.trans e2)).append (hdd _ _ _)), g'.bind.mono fun v H1 ⟨r1, d, m1, e3, s3, h3, _, g3⟩ => ?_⟩
  · by_cases h : (D.ref m.length :: ds ++ dd).length = n
    · exact h
    · rw [hn _ _ h] at g'; exact g'.elim
  · split at g3
    · exact ⟨h3.non_inv, g3.now s3 (hself.ext e3)⟩
    · exact g3.elim
theorem r_new0 (S : SX X W N sc) {cl : Str} {F : Fn} {p : Pos} (ok : NewOk (gw X) cl F) (hg : gloB sc cl = true) : PE X (.Call (.Name cl p) [] [] pos) (tE X.K W fun d m => (Res.ok [] m).bind fun vs m1 => evNew cl F vs m1) := by
  obtain ⟨f, hm, M, A⟩ := ok
  refine ⟨fun pins s σ H Q I ⟨Z, r, δ, m, rs, g⟩ => ?_⟩
  refine wpAny_Call_Name_kw (ld_glob I (S.gl hg) hm ?_ (glo_of hg).2.1)
  exact PySem.W.callWith_K0 I.kIn M.kp (new_go S M A (us := []) I .nil rs.sr .nil g)
theorem r_new (S : SX X W N sc) {cl : Str} {F : Fn} {p : Pos} (ok : NewOk (gw X) cl F) (hg : gloB sc cl = true) (ha : PA X (e :: es) (tA X.K W fs)) (hs : ∀ x ∈ e :: es, notStar x = true) :
    PE X (.Call (.Name cl p) (e :: es) [] pos) (tE X.K W fun d m => (fs d m).bind fun vs m1 => evNew cl F vs m1) := by
  obtain ⟨f, hm, M, A⟩ := ok
  refine ⟨fun pins s σ H Q I h => ?_⟩
  refine wpAny_Call_Name_kw (ld_glob I (S.gl hg) hm ?_ (glo_of hg).2.1)
  have h' := tA_step h (R := fun vs H1 => ∃ Z r δ m ds, RS X.K Z r H1 σ δ m ∧ VRs X.K Z r H1 ds vs ∧ GE X.K Z r H1 (evNew cl F ds m) Q (EW W σ)) fun Z r δ m ds vs H1 rs hv g => ⟨Z, r, δ, m, ds, rs, hv, g⟩
  refine PySem.W.callWith_K (h₀ := X.base) I.ok.mod.kin M.kp (thn (ha.run pos pins s σ H _ I h') fun us s1 ⟨vs, H1, I1, rv, Z, r, δ, m, ds, rs, hv, g⟩ => ⟨I1.kIn, ?_⟩) (star1 (hs e List.mem_cons_self)) (star_all fun x hx => hs x (List.mem_cons_of_mem _ hx))
  exact new_go S M A I1 rv rs.sr hv g
theorem r_fld {cl f : Str} (ok : FldOk (gw X) cl f) (ho : PE X o (tE X.K W fa)) (hn : noSup o = true) : PE X (.Attribute o f pos) (tE X.K W fun d m => (fa d m).bind fun x m1 => evFld cl f x m1) :=
  (pe_fld ho (base_ok hn)).imp fun σ H Q h => tE_step h fun Z r δ m d v H1 rs hv g => by
    unfold evFld at g
    split at g
    · rename_i c' ns fs ei
      split at g
      · rename_i hc
        subst hc
        split at g
        · rename_i w ew
          obtain ⟨p, dx, xs, rfl, h1, h2, h3⟩ := rs.sr.ins hv ei
          obtain ⟨z, h4, h5⟩ := fld_look h2 h3 ew
          exact ⟨p, _, dx, _, z, rfl, h1, ok.1, ok.2, h4, g.now rs.sr h5⟩
        · exact g.elim
      · exact g.elim
    · exact g.elim
theorem r_prp (S : SX X W N sc) {cl f : Str} {F : Fn} (ok : PrpOk (gw X) cl f F) (ho : PE X o (tE X.K W fa)) (hn : noSup o = true) :
    PE X (.Attribute o f pos) (tE X.K W fun d m => (fa d m).bind fun x m1 => evMth cl (Str.ofString "") F x [] m1) := by
  obtain ⟨p, f', hc, hp, A, hx⟩ := ok
  refine ⟨fun pins s σ H Q I ⟨Z, r, δ, m, rs, g0⟩ => ?_⟩
  refine attr_of (base_ok hn) (thn (ho.run pins s σ H _ I ⟨Z, r, δ, m, rs, g0.bind⟩) fun u s1 ⟨x, H1, I1, rx, r1, d, m1, e1, sr1, h1, _, g1⟩ => ?_)
  unfold evMth at g1
  split at g1
  · rename_i hi
    obtain ⟨ad, dx, fs', ex, ea, lk⟩ := sr1.insIs h1 hi
    subst ex
    obtain rfl : u = Value.ref ad := rx
    obtain ⟨fd, ps, n, k, FG, hr, hb, hn'⟩ := A.ex
    refine propG hc hp FG hr S.gd hb I1 ea ⟨Z, r1, m1, [d], ?_, sr1, .cons h1 .nil, ?_⟩
    · by_cases h : [d].length = n
      · exact h
      · rw [hn' _ _ h] at g1; exact g1.elim
    · cases q : F [d] m1 with
      | ok z m2 => rw [q] at g1; exact g1
      | exc c' es m2 => exact absurd q (hx _ _ _ _ _)
      | stuck => rw [q] at g1; exact g1
  · exact g1.elim
end
/-! ### targets -/
def Keep (ix : List Nat) (σ σ1 : L2.St) : Prop := σ1.length = σ.length ∧ ∀ j, j ∉ ix → σ1[j]? = σ[j]?
theorem Keep.refl {ix : List Nat} {σ : L2.St} : Keep ix σ σ := ⟨rfl, fun _ _ => rfl⟩
theorem Keep.trans {ix : List Nat} {σ σ1 σ2 : L2.St} (a : Keep ix σ σ1) (b : Keep ix σ1 σ2) : Keep ix σ σ2 := ⟨b.1.trans a.1, fun j h => (b.2 j h).trans (a.2 j h)⟩
theorem Keep.mono {ix iy : List Nat} {σ σ1 : L2.St} (a : Keep ix σ σ1) (h : ∀ i ∈ ix, i ∈ iy) : Keep iy σ σ1 := ⟨a.1, fun j hj => a.2 j fun z => hj (h j z)⟩
theorem wipe_in {σ : L2.St} {i : Nat} : ∀ {vs : List Nat}, i ∈ vs → i < σ.length → (L2.wipe σ vs)[i]? = some none
  | [], h, _ => by cases h
  | v :: vs, h, hl => by
    show ((L2.wipe σ vs).set v none)[i]? = some none
    by_cases hv : v = i
    · subst hv
      rw [List.getElem?_set_self (by rw [L2.wipe_length]; exact hl)]
    · rw [List.getElem?_set_ne hv]
      rcases List.mem_cons.mp h with z | z
      · exact absurd z.symm hv
      · exact wipe_in z hl
theorem Keep.wiped {ix vs : List Nat} {σ σ1 : L2.St} (k : Keep ix (L2.wipe σ vs) σ1) (h : ∀ i ∈ ix, i ∈ vs) : L2.wipe σ1 vs = L2.wipe σ vs := by
  refine List.ext_getElem? fun j => ?_
  have hl : σ1.length = σ.length := by rw [k.1, L2.wipe_length]
  by_cases hj : j ∈ vs
  · by_cases hlt : j < σ.length
    · rw [wipe_in hj (by rw [hl]; exact hlt), wipe_in hj hlt]
    · rw [List.getElem?_eq_none (by rw [L2.wipe_length]; omega), List.getElem?_eq_none (by rw [L2.wipe_length]; omega)]
  · rw [wipe_out hj, k.2 j fun z => hj (h j z)]
section
variable {X : Cx} {W : WX} {N : List Str} {sc : Scope} {a b c e o : PySem.Expr} {es rest : List PySem.Expr} {fa fb fc : Env → Sto → Res D} {fs : Env → Sto → Res (List D)} {pos : Pos} {ix iy : List Nat}
def gT (K : PySem.W.Frag) (ix : List Nat) (f : D → Env → Sto → Res Env) : TG := fun v σ H Q => ∃ Z r δ m d, RS K Z r H σ δ m ∧ VR K Z r H d v ∧ ∃ δ1 m1, f d δ m = .ok δ1 m1 ∧
  ∀ σ1 H1 r1, Ext r H r1 H1 → RS K Z r1 H1 σ1 δ1 m1 → Keep ix σ σ1 → Q σ1 H1
def gTs (K : PySem.W.Frag) (ix : List Nat) (f : List D → Env → Sto → Res Env) : TGs := fun vs σ H Q => ∃ Z r δ m ds, RS K Z r H σ δ m ∧ VRs K Z r H ds vs ∧ ∃ δ1 m1, f ds δ m = .ok δ1 m1 ∧
  ∀ σ1 H1 r1, Ext r H r1 H1 → RS K Z r1 H1 σ1 δ1 m1 → Keep ix σ σ1 → Q σ1 H1
theorem _root_.L2.PG.imp {X : Cx} {e : PySem.Expr} {t t' : TG} (h : PG X e t) (i : ∀ v σ H Q, t' v σ H Q → t v σ H Q) : PG X e t' := ⟨fun pins s σ H v u Q I rv q => h.run pins s σ H v u Q I rv (i v σ H Q q)⟩
theorem _root_.L2.PGs.imp {X : Cx} {e : List PySem.Expr} {t t' : TGs} (h : PGs X e t) (i : ∀ v σ H Q, t' v σ H Q → t v σ H Q) : PGs X e t' := ⟨fun pins s σ H v u Q I rv q => h.run pins s σ H v u Q I rv (i v σ H Q q)⟩
theorem g_name (S : SX X W N sc) {i : Nat} {x : Str} (hN : N[i]? = some x) {fl : Str → Bool} (hf : ∀ x, fl x = true → X.fn x = true) (hx : loc2B fl sc x = true) : PG X (.Name x pos) (gT X.K [i] fun v d m => .ok (d.set i (some v)) m) :=
  (pg_name (i := i) (by rw [S.hN]; exact S.nd) (by rw [S.hN]; exact hN) (by rw [S.hs]; exact (loc2_of hx).1) (by rw [S.hs]; exact (loc2_of hx).2.imp (hf x) id)).imp fun v σ H Q ⟨Z, r, δ, m, d, rs, hv, δ1, m1, e, q⟩ => by
    cases e
    refine q _ H r (.refl _ _) (rs.set hv) ⟨by rw [List.length_set], fun j hj => ?_⟩
    rw [List.getElem?_set_ne]
    intro z
    exact hj (by rw [z]; simp)
theorem gs_nil : PGs X [] (gTs X.K [] fun vs d m => (match vs with
    | [] => .ok d m
    | _ => .stuck)) :=
  pgs_nil.imp fun v σ H Q ⟨Z, r, δ, m, ds, rs, hv, δ1, m1, e, q⟩ => by
    cases ds with
    | nil =>
      cases e
      exact ⟨hv.inv_nil, q σ H r (.refl _ _) rs .refl⟩
    | cons _ _ => cases e
theorem assign1 {env : PySem.Env} (h : notStar e = true) : assignEach (e :: es) env = (false, assign e env) :: assignEach es env := by
  cases e <;> first | rfl | cases h
theorem gs_cons {f : D → Env → Sto → Res Env} {g : List D → Env → Sto → Res Env} (h1 : PG X e (gT X.K ix f)) (h2 : PGs X es (gTs X.K iy g)) (hs : notStar e = true) : PGs X (e :: es) (gTs X.K (ix ++ iy) fun vs d m => (match vs with
    | v :: vs => (f v d m).bind fun d1 m1 => g vs d1 m1
    | _ => .stuck)) :=
  (pgs_cons h1 h2 (by rw [assign1 hs]; rfl)).imp fun v σ H Q ⟨Z, r, δ, m, ds, rs, hv, δ1, m1, e, q⟩ => by
    cases ds with
    | nil => cases e
    | cons d ds =>
      obtain ⟨x, t, rfl, hx, ht⟩ := hv.inv_cons
      dsimp only at e
      cases q1 : f d δ m with
      | ok δ2 m2 =>
        rw [q1] at e
        refine ⟨x, t, rfl, Z, r, δ, m, d, rs, hx, δ2, m2, q1, fun σ1 H1 r1 e1 rs1 k1 => ?_⟩
        refine ⟨Z, r1, δ2, m2, ds, rs1, ht.ext e1, δ1, m1, e, fun σ2 H2 r2 e2 rs2 k2 => ?_⟩
        exact q σ2 H2 r2 (e1.trans e2) rs2 ((k1.mono fun i z => List.mem_append_left _ z).trans (k2.mono fun i z => List.mem_append_right _ z))
      | exc c es m => rw [q1] at e; cases e
      | stuck => rw [q1] at e; cases e
theorem assign_all {env : PySem.Env} : ∀ {es : List PySem.Expr}, (∀ e ∈ es, notStar e = true) → (assignEach es env).length = es.length ∧ (assignEach es env).findIdx? (·.1) = none
  | [], _ => ⟨rfl, rfl⟩
  | e :: es, h => by
    rw [assign1 (h e List.mem_cons_self)]
    obtain ⟨h1, h2⟩ := assign_all (env := env) fun x hx => h x (List.mem_cons_of_mem _ hx)
    refine ⟨by rw [List.length_cons, List.length_cons, h1], ?_⟩
    rw [List.findIdx?_cons]
    simp [h2]
theorem g_tup (S : SX X W N sc) {k : Nat} {g : List D → Env → Sto → Res Env} (h : PGs X es (gTs X.K ix g)) (hs : ∀ x ∈ es, notStar x = true) (hl : ∀ ds δ m δ1 m1, g ds δ m = .ok δ1 m1 → ds.length = es.length) : PG X (.Tuple es k pos) (gT X.K ix fun v d m => (match seqOf m v with
    | some vs => g vs d m
    | none => .stuck)) := by
  refine ⟨fun pins s σ H v u Q I rv ⟨Z, r, δ, m, d, rs, hv, δ1, m1, e, q⟩ => ?_⟩
  dsimp only at e
  split at e
  · rename_i ds es'
    obtain ⟨p, xs, rfl, h1, h2⟩ := rs.sr.seq hv es'
    rcases h1 with h1 | h1
    · exact (pg_unl S.calm h (assign_all hs).1 (assign_all hs).2).run pins s σ H _ u Q I rv ⟨p, xs, rfl, h1, by rw [h2.length]; exact hl _ _ _ _ _ e, Z, r, δ, m, ds, rs, h2, δ1, m1, e, q⟩
    · exact (pg_tup S.calm h (assign_all hs).1 (assign_all hs).2).run pins s σ H _ u Q I rv ⟨p, xs, rfl, h1, by rw [h2.length]; exact hl _ _ _ _ _ e, Z, r, δ, m, ds, rs, h2, δ1, m1, e, q⟩
  · cases e
theorem tE_ok {K : PySem.W.Frag} {Z : PZ} {r : List Addr} {H : Hp} {σ : L2.St} {δ : Env} {m m1 : Sto} {f : Env → Sto → Res D} {x : D} {Q : VK} (rs : RS K Z r H σ δ m) (e : f δ m = .ok x m1) (q : ∀ v H1 r1, Ext r H r1 H1 → SR K Z r1 H1 m1 → VR K Z r1 H1 x v → Q v H1) : tE K W f σ H Q := by
  refine ⟨Z, r, δ, m, rs, ?_⟩
  rw [e]
  exact q
theorem sub_assign {env : PySem.Env} {i : PySem.Expr} (h : notSlice i = true) : ∀ v, assign (.Subscript o i pos) env v = (do
      let ov ← holding [v] (eval o env)
      let iv ← holding [v, ov] (eval i env)
      standAt pos
      holding [v, ov, iv] (setItem ov iv v)
      release [v, ov, iv] []) := by
  intro v
  cases i <;> first | rfl | cases h
theorem g_sub {i : PySem.Expr} (ho : PE X o (tE X.K W fa)) (hi : PE X i (tE X.K W fb)) (hs : notSlice i = true) : PG X (.Subscript o i pos) (gT X.K [] fun v d m => (fa d m).bind fun x m1 => (fb d m1).bind fun y m2 => optRes (evSub x y v m2) d) :=
  (pg_sub ho hi set_list (sub_assign hs)).imp fun v σ H Q ⟨Z, r, δ, m, d, rs, hv, δ1, m1, e, q⟩ => by
    dsimp only at e
    cases q1 : fa δ m with
    | ok x m2 =>
      rw [q1] at e
      have e : ((fb δ m2).bind fun y m2 => optRes (evSub x y d m2) δ) = .ok δ1 m1 := e
      refine tE_ok rs q1 fun vo H1 r1 e1 s1 h1 => ?_
      cases q2 : fb δ m2 with
      | ok y m3 =>
        rw [q2] at e
        have e : optRes (evSub x y d m3) δ = .ok δ1 m1 := e
        refine tE_ok (rs.ext e1 s1) q2 fun vi H2 r2 e2 s2 h2 => ?_
        unfold optRes at e
        split at e
        · rename_i m4 em
          cases e
          unfold evSub at em
          split at em
          · rename_i n kk e0
            split at em
            · rename_i ls el
              split at em
              · rename_i j ej
                cases em
                obtain ⟨p, rfl, hp⟩ := (h1.ext e2).ref_inv
                obtain rfl := h2.int_inv
                obtain ⟨xs, hH, hxs⟩ := s2.cellL hp el
                have hv2 := (hv.ext e1).ext e2
                refine ⟨p, xs, kk, j, rfl, rfl, hH, by rw [hxs.length]; exact ej, ?_⟩
                have ew : Ext r2 H2 r2 (upd H2 p (.lst (xs.set j v))) := .write hp (by rw [hH]; trivial)
                refine q _ _ r2 ((e1.trans e2).trans ew) ?_ .refl
                exact ((rs.ext e1 s1).ext e2 s2).ext ew (s2.write hp ⟨_, upd_same, (hxs.set j hv2).ext ew⟩)
              · cases em
            · cases em
          · cases em
        · cases e
      | exc c es m => rw [q2] at e; cases e
      | stuck => rw [q2] at e; cases e
    | exc c es m => rw [q1] at e; cases e
    | stuck => rw [q1] at e; cases e
theorem zip_put {k : Key} {v : V} : ∀ {ks : List Key} {xs : List V}, ks.length = xs.length → (ks.zip xs).map (fun kv => if kv.1 = k then (kv.1, v) else kv) = ks.zip (List.zipWith (fun j x => if j = k then v else x) ks xs)
  | [], xs, h => by cases xs <;> rfl
  | j :: ks, [], h => by simp at h
  | j :: ks, x :: xs, h => by
    rw [List.zip_cons_cons, List.map_cons, zip_put (by simpa using h), List.zipWith_cons_cons, List.zip_cons_cons]
    by_cases q : j = k
    · simp [q]
    · simp [q]
theorem any_zip {k : Key} : ∀ {ks : List Key} {xs : List V}, ks.length = xs.length → ((ks.zip xs).any fun kv => decide (kv.1 = k)) = ks.any fun j => decide (j = k)
  | [], xs, h => by cases xs <;> rfl
  | j :: ks, [], h => by simp at h
  | j :: ks, x :: xs, h => by
    rw [List.zip_cons_cons, List.any_cons, List.any_cons, any_zip (by simpa using h)]
theorem put_zip {k : Key} {v : V} {ks : List Key} {xs : List V} (h : ks.length = xs.length) : putK (ks.zip xs) k v = (putKs k ks).zip (if (ks.any fun j => decide (j = k)) = true then List.zipWith (fun j x => if j = k then v else x) ks xs else xs ++ [v]) := by
  unfold putK putKs
  rw [any_zip h]
  by_cases q : (ks.any fun j => decide (j = k)) = true
  · rw [if_pos q, if_pos q, if_pos q, zip_put h]
  · rw [if_neg q, if_neg q, if_neg q]
    rw [List.zip_append h]
    rfl
theorem VRs.zipW {K : PySem.W.Frag} {Z : PZ} {r : List Addr} {H : Hp} {k : Key} {d : D} {v : V} (hv : VR K Z r H d v) : ∀ {ks : List Key} {ds : List D} {xs : List V}, VRs K Z r H ds xs → VRs K Z r H (List.zipWith (fun j d' => if j = k then d else d') ks ds) (List.zipWith (fun j x => if j = k then v else x) ks xs)
  | [], ds, xs, h => by simpa using VRs.nil
  | j :: ks, [], xs, h => by rw [h.inv_nil]; simpa using VRs.nil
  | j :: ks, e :: ds, xs, h => by
    obtain ⟨x, t, rfl, h1, h2⟩ := h.inv_cons
    rw [List.zipWith_cons_cons, List.zipWith_cons_cons]
    refine .cons ?_ (VRs.zipW hv h2)
    by_cases q : j = k
    · rw [if_pos q, if_pos q]; exact hv
    · rw [if_neg q, if_neg q]; exact h1
def rPut : TSet := fun o i v H Q => ∃ p H', o = .ref p ∧ DPut H p i v H' ∧ Q H'
theorem set_dict (hu : X.A.units + 1 < cLine) : PSet X rPut := by
  intro pins s σ H o i v ov iv u Q I ro ri rv ⟨p, H', eo, g, q⟩
  subst eo
  cases (show ov = Value.ref p from ro)
  exact d_setItem hu I g ri rv fun s' I' => ⟨H', I', q⟩
theorem g_put (hu : X.A.units + 1 < cLine) {i : PySem.Expr} (ho : PE X o (tE X.K W fa)) (hi : PE X i (tE X.K W fb)) (hs : notSlice i = true) : PG X (.Subscript o i pos) (gT X.K [] fun v d m => (fa d m).bind fun x m1 => (fb d m1).bind fun y m2 => optRes (evPut x y v m2) d) :=
  (pg_sub ho hi (set_dict hu) (sub_assign hs)).imp fun v σ H Q ⟨Z, r, δ, m, d, rs, hv, δ1, m1, e, q⟩ => by
    dsimp only at e
    cases q1 : fa δ m with
    | ok x m2 =>
      rw [q1] at e
      have e : ((fb δ m2).bind fun y m2 => optRes (evPut x y d m2) δ) = .ok δ1 m1 := e
      refine tE_ok rs q1 fun vo H1 r1 e1 s1 h1 => ?_
      cases q2 : fb δ m2 with
      | ok y m3 =>
        rw [q2] at e
        have e : optRes (evPut x y d m3) δ = .ok δ1 m1 := e
        refine tE_ok (rs.ext e1 s1) q2 fun vi H2 r2 e2 s2 h2 => ?_
        unfold optRes at e
        split at e
        · rename_i m4 em
          cases e
          unfold evPut at em
          split at em
          · rename_i n kk ek e0
            split at em
            · rename_i ks ls el
              split at em
              · rename_i hz
                cases em
                obtain ⟨p, rfl, hp⟩ := (h1.ext e2).ref_inv
                obtain rfl := asKey_kV h2 ek
                obtain ⟨xs, hH, hl, hxs⟩ := s2.cellD hp el
                have hv2 := (hv.ext e1).ext e2
                have hlz : (ks.zip xs).length = ks.length := by rw [List.length_zip, ← hl]; omega
                refine ⟨p, _, rfl, DPut.k hH (by rw [hlz, ← size16]; omega), ?_⟩
                have ew : Ext r2 H2 r2 (upd H2 p (.dK (putK (ks.zip xs) kk v))) := .write hp (by rw [hH]; trivial)
                refine q _ _ r2 ((e1.trans e2).trans ew) ?_ .refl
                refine ((rs.ext e1 s1).ext e2 s2).ext ew (s2.write hp ⟨_, by rw [upd_same, put_zip hl], ?_, ?_⟩)
                · unfold putKs
                  by_cases z : (ks.any fun j => decide (j = kk)) = true
                  · rw [if_pos z, if_pos z, List.length_zipWith, ← hl]; omega
                  · rw [if_neg z, if_neg z, List.length_append, List.length_append, hl]; rfl
                · unfold putDs
                  by_cases z : (ks.any fun j => decide (j = kk)) = true
                  · rw [if_pos z, if_pos z]; exact (VRs.zipW hv2 hxs).ext ew
                  · rw [if_neg z, if_neg z]; exact (hxs.append (.cons hv2 .nil)).ext ew
              · cases em
            · cases em
          · cases em
        · cases e
      | exc c es m => rw [q2] at e; cases e
      | stuck => rw [q2] at e; cases e
    | exc c es m => rw [q1] at e; cases e
    | stuck => rw [q1] at e; cases e
theorem put_look {f : Str} {v : V} : ∀ {ns : List Str} {xs : List V}, ns.length = xs.length → ∃ ys, putF f v (ns.zip xs) = (putNs f ns).zip ys ∧ (putNs f ns).length = ys.length ∧ ∀ {K : PySem.W.Frag} {Z : PZ} {r : List Addr} {H : Hp} {ds : List D} {d : D}, VRs K Z r H ds xs → VR K Z r H d v → VRs K Z r H (putFs f d ns ds) ys
  | [], [], h => ⟨[v], rfl, rfl, fun {K Z r H ds d} hs hd => by
      rw [hs.nil_of]
      exact .cons hd .nil⟩
  | [], x :: xs, h => by simp at h
  | n :: ns, [], h => by simp at h
  | n :: ns, x :: xs, h => by
    by_cases q : n = f
    · refine ⟨v :: xs, ?_, ?_, fun {K Z r H ds d} hs hd => ?_⟩
      · rw [List.zip_cons_cons, putF, putNs, if_pos q]
        simp [q]
      · rw [putNs, if_pos q]; simpa using h
      · cases ds with
        | nil => rw [hs.inv_nil] at h; exact absurd hs.inv_nil (by simp)
        | cons e ds =>
          obtain ⟨y, t, ey, h1, h2⟩ := hs.inv_cons
          cases ey
          rw [putFs, if_pos q]
          exact .cons hd h2
    · obtain ⟨ys, h1, h2, h3⟩ := put_look (f := f) (v := v) (ns := ns) (xs := xs) (by simpa using h)
      refine ⟨x :: ys, ?_, ?_, fun {K Z r H ds d} hs hd => ?_⟩
      · rw [List.zip_cons_cons, putF, putNs, if_neg q, if_neg q, List.zip_cons_cons, ← h1]
      · rw [putNs, if_neg q, List.length_cons, List.length_cons, h2]
      · cases ds with
        | nil => exact absurd hs.inv_nil (by simp)
        | cons e ds =>
          obtain ⟨y, t, ey, h4, h5⟩ := hs.inv_cons
          cases ey
          rw [putFs, if_neg q]
          exact .cons h4 (h3 h5 hd)
theorem g_att {cl f : Str} (ok : FldOk (gw X) cl f) (ho : PE X o (tE X.K W fa)) : PG X (.Attribute o f pos) (gT X.K [] fun v d m => (fa d m).bind fun x m1 => optRes (evAtt cl f x v m1) d) := by
  refine ⟨fun pins s σ H v u Q I rv ⟨Z, r, δ, m, d, rs, hv, δ1, m1, e, q⟩ => ?_⟩
  show wpAny _ _ (do
    let ov ← holding [u] (eval o X.env)
    standAt pos.atName
    holding [u, ov] (setAttr ov f u)
    release [u, ov] []) _ _ _
  dsimp only at e
  cases q1 : fa δ m with
  | ok x m2 =>
    rw [q1] at e
    have e : optRes (evAtt cl f x d m2) δ = .ok δ1 m1 := e
    refine wpAny_bind (wpAny_holding (thn (ho.run pins s σ H (fun vo H1 => ∃ r1, Ext r H r1 H1 ∧ SR X.K Z r1 H1 m2 ∧ VR X.K Z r1 H1 x vo) I (tE_ok rs q1 fun vo H1 r1 e1 s1 h1 => ⟨r1, e1, s1, h1⟩)) fun ov s1 ⟨vo, H1, I1, ro, r1, e1, sr1, h1⟩ => ?_))
    unfold optRes at e
    split at e
    · rename_i m4 em
      cases e
      unfold evAtt at em
      split at em
      · rename_i n e0
        split at em
        · rename_i c' ns fs' em2
          split at em
          · rename_i hc
            obtain ⟨rfl, hlen⟩ := hc
            cases em
            obtain ⟨p, rfl, hp⟩ := h1.ref_inv
            obtain rfl : ov = Value.ref p := ro
            obtain ⟨dx, xs, hH, hl, hxs⟩ := sr1.cells n _ p em2 hp
            obtain ⟨ys, h2, h3, h4⟩ := put_look (f := f) (v := v) hl
            refine wpAny_bind (wpAny_standAt (wpAny_bind (wpAny_holding (setattr_ok I1 hH ok.1 ok.2 (by rw [List.length_zip, ← hl]; omega) rv fun s3 I3 => ?_))))
            have ew : Ext r1 H1 r1 (upd H1 p (.ins (He.ga X.K c') dx (putF f v (ns.zip xs)))) := .write hp (by rw [hH]; trivial)
            refine wpAny_release ⟨σ, _, I3, q _ _ r1 (e1.trans ew) ?_ .refl⟩
            exact (rs.ext e1 sr1).ext ew (sr1.write hp ⟨dx, ys, by rw [upd_same, h2], h3, (h4 hxs (hv.ext e1)).ext ew⟩)
          · cases em
        · cases em
      · cases em
    · cases e
  | exc c es m => rw [q1] at e; cases e
  | stuck => rw [q1] at e; cases e
end
end ME
set_option Elab.async false
set_option linter.all false
set_option maxRecDepth 100000
set_option maxHeartbeats 4000000
/-! enumerate(tuple) -/
namespace PySem
open Sem (wp)
theorem meets_enum1B {v : Value} {o : Obj} {H : Heap → Prop} (B : Begins v o H) :
    Meets (Builtin.«enumerate.__new__» ⟨[.type "enumerate", v], []⟩) (fun _ R s => H s.heap ∧
      R (.ok (.ret (.ref (s.heap.push o).objs.size))) { s with heap := (s.heap.push o).push { cls := .type "enumerate", data := .fields #[.none, .bool false, .ref s.heap.objs.size, rawInt 0, .none, .none] } }) :=
  .of_wp fun prog w A R s h => by
    obtain ⟨hp, g, d, tk, os⟩ := s; obtain ⟨h1, h⟩ := h
    have hsub := sub_enumerate
    have q1 : ∀ {A' : Around} {E : Value → Shared → Prop} {Q : Value → Shared → Prop}, Q (.ref hp.objs.size) ⟨hp.push o, g, d, tk, os⟩ → wpAny (model prog w) A' (pyIter v) Q E ⟨hp, g, d, tk, os⟩ :=
      fun q => B.iter prog w _ _ ⟨hp, g, d, tk, os⟩ _ h1 q
    wp_walk using q1
    refine wpAny_stack_any fun st => wpAny_pure ?_
    split
    · rename_i c _ _ _ _ _
      cases (c == Value.type "enumerate")
      · wp_walk using q1
        exact ⟨_, rfl, h⟩
      · wp_walk using q1
        exact ⟨_, rfl, h⟩
    · wp_walk using q1
      exact ⟨_, rfl, h⟩
theorem call_enum1B {prog : Program} {w : World} {A : Around} {E : Value → Shared → Prop} {s : Shared} {v : Value} {o : Obj} {H : Heap → Prop} {Q : Value → Shared → Prop} (B : Begins v o H) (h1 : H s.heap)
    (h : ∀ h', IsEnum h' (s.heap.objs.size + 1) s.heap.objs.size 0 .none → h'.get? s.heap.objs.size = some o →
      (∀ b o, s.heap.get? b = some o → h'.get? b = some o) → Q (.ref (s.heap.objs.size + 1)) { s with heap := h' }) :
    wpAny (model prog w) A (call (.type "enumerate") [v]) Q E s := by
  refine callType_new F.called_enumerate (by decide) (F.typeCall_enumerate_1 _) (F.newCall_enumerate_1 _) (fun obj => F.args_object_init_2 obj _) F.entry_enumerate_new
    (meets_enum1B B) ⟨h1, ?_⟩
  have hz : (s.heap.push o).objs.size = s.heap.objs.size + 1 := Heap.size_push ..
  show _ ∧ _
  rw [hz]
  have he : IsEnum ((s.heap.push o).push { cls := .type "enumerate", data := .fields #[.none, .bool false, .ref s.heap.objs.size, rawInt 0, .none, .none] }) (s.heap.objs.size + 1) s.heap.objs.size 0 .none := by
    have := Heap.get?_push_size (s.heap.push o) (o := { cls := .type "enumerate", data := .fields #[.none, .bool false, .ref s.heap.objs.size, rawInt 0, .none, .none] }) rfl
    rw [hz] at this; exact this
  exact ⟨⟨_, he, rfl⟩, h _ he (Heap.get?_push_of_some _ (Heap.get?_push_size _ B.free)) fun b o x => Heap.get?_push_of_some _ (Heap.get?_push_of_some _ x)⟩
end PySem
namespace ME
open PySem PySem.Spec PyProof.Rows L2
/-- the tuple at a, each item in a new pair -/
def IteT (K : PySem.W.Frag) (a : Addr) : It :=
  ⟨fun i H => ∃ (xs : List V) (x : V), SqT K H a xs ∧ xs[i]? = some x, fun i H v H' => ∃ T x, v = .ref T ∧ H T = none ∧ H' = upd H T (.tup [.int (i : Nat), x]) ∧ ∀ xs, SqT K H a xs → xs[i]? = some x, fun i H => ∃ xs : List V, SqT K H a xs ∧ xs.length ≤ i⟩
theorem turn_enumT {P : Program} {w : World} {K : PySem.W.Frag} {elts : List Expr} {kk : Nat} {tpos : Pos} (a e it : Addr) (hae : a ≠ e) (hai : a ≠ it) :
    Turn P w K (.Tuple elts kk tpos) (IteT K a) [e, it] e (fun i h => (∃ old, IsEnum h e it ((i : Nat) : Int) old) ∧ h.IsTupleIter it a i ∧ e ≠ it) where
  mem := by simp
  obj := fun i h st b hb => by
    obtain ⟨⟨old, he⟩, ⟨o, ho, hc, hd⟩, _⟩ := st
    have e' : b = e ∨ b = it := by simpa using hb
    rcases e' with z | z
    · rw [z]; exact ⟨_, he, fun v q => nomatch q⟩
    · rw [z]; exact ⟨o, ho, fun v q => by rw [hd] at q; cases q⟩
  keep := fun i h h' st k => let ⟨⟨old, he⟩, hi, hne⟩ := st; ⟨⟨old, k e (by simp) _ he⟩, hi.at fun o q => k it (by simp) o q, hne⟩
  item := by
    intro X hP hw hK hc i pins s σ H E I hf st hg
    subst hP hw hK
    obtain ⟨⟨old, he⟩, hit, hne⟩ := st
    obtain ⟨xs, x, hq, hx⟩ := hg
    obtain ⟨its, rv, p, hz⟩ := I.tuple hq
    have hlt : i < its.toArray.size := by
      have := (List.getElem?_eq_some_iff.mp hx).1
      rw [rv.length] at this
      simpa using this
    have hel : e < s.heap.objs.size := Heap.lt_size he
    have hil : it < s.heap.objs.size := by obtain ⟨_, q, _⟩ := hit; exact Heap.lt_size q
    refine wpAny_pyNext_enum_itemD (Draws.tuple (A := X.A.in1) (I.ok.hd hc) it a hai its.toArray) he ⟨hit, p⟩ hlt hne (by simp [Ne.symm hae, hne]) fun u h' tk hu ho hst' hT hsz hk => ?_
    obtain ⟨y, hy, ry⟩ : ∃ y, xs[i]? = some y ∧ RelV y u := by
      obtain ⟨u', hu', ru'⟩ := rv.get hx
      have : its[i]? = some u := by simpa using hu
      rw [this] at hu'; cases hu'
      exact ⟨x, hx, ru'⟩
    rw [hx] at hy; cases hy
    refine ⟨_, rfl, wpAny_letOwnedTupleGo_enum (s := { s with heap := h', toks := tk + 1 }) ho fun h'' he' sb => ?_⟩
    have hT2 : h''.get? s.heap.objs.size = some { cls := .type "tuple", data := .seq #[.int i tk, u] } := (sb.2 _ (Nat.ne_of_gt hel)).trans hT
    have new : ObjOk X.prog X.w (upd H s.heap.objs.size (.tup [.int (i : Nat), x])) h'' s.heap.objs.size (.tup [.int (i : Nat), x]) :=
      ⟨by show 2 ≤ sizeLine; decide, [.int i tk, u], .cons ⟨_, rfl⟩ (.cons ry .nil), ⟨_, hT2, rfl, _, rfl⟩⟩
    have I1 : Inv X pins σ (upd H s.heap.objs.size (.tup [.int (i : Nat), x])) { s with heap := h'', toks := tk + 1 } :=
      I.turnedNew (ch := [e, it]) (fun b ob hb q => (sb.2 b (fun z => hb (by simp [z]))).trans (hk b ob (fun z => hb (by simp [z])) (fun z => hb (by simp [z])) q)) hf (Nat.le_refl _) new
    refine ⟨.ref s.heap.objs.size, _, I1, rfl, ⟨_, x, rfl, I.hok.fresh (Nat.le_refl _), rfl, fun ys hy => by rw [I.tuple_inj hy hq]; exact hx⟩, ⟨⟨u, ?_⟩, hst'.1.at fun o q => (sb.2 it (Ne.symm hne)).trans q, hne⟩, fun b hb => ?_⟩
    · have e1 : ((i + 1 : Nat) : Int) = (i : Int) + 1 := by omega
      rw [e1]; exact he'
    · have hb' : b < s.heap.objs.size := by
        have e' : b = e ∨ b = it := by simpa using hb
        rcases e' with z | z
        · rw [z]; exact hel
        · rw [z]; exact hil
      rw [upd_ne (Nat.ne_of_lt hb')]
      exact (hf b hb).1
  done := by
    intro X hP hw hK hc i pins s σ H E I hf st hg
    subst hP hw hK
    obtain ⟨⟨old, he⟩, hit, hne⟩ := st
    obtain ⟨xs, hq, hx⟩ := hg
    obtain ⟨its, rv, p, hz⟩ := I.tuple hq
    obtain ⟨f0, f1, f2, f3, f4, f5⟩ := hf it (by simp)
    have hl := rv.length
    have hT : s.TypeIs (.ref e) "enumerate" := ⟨_, he, rfl⟩
    unfold pyNext
    refine wpAny_bind (wpAny_attempt (wpAny_callSpecial?_slot (name := Str.ofString "__next__") hT F.slot_enumerate_next
      (wpAny_call_entry F.slot_enumerate_next hT F.entry_enumerate_next ?_ (F.args_enumerate_next_1 _))))
    show wpAny _ _ (field (.ref e) 2 >>= _) _ _ _
    refine wpAny_bind (wpAny_field he rfl (x := .ref it) rfl ?_)
    refine wpAny_bind (wpAny_nextOf_tuple_end (A := X.A.in1) (I.ok.hd hc) hit (show s.heap.IsTuple a its.toArray from p) (by simp; omega) fun h' x he' hx' => ?_)
    obtain ⟨o, ho, hc'⟩ := hx'
    refine wpAny_bind (wpAny_isInstance (T := "StopIteration") (b := true) ⟨o, ho, hc'⟩ isSubtype_stop ?_)
    exact wpAny_pure ⟨rfl, I.turned (t' := s.toks) (fun b o hb q => he' b o hb q) f0 f1 f3 f4 f5⟩
  self := fun A i s Q E st h => let ⟨⟨_, he⟩, _⟩ := st; wpAny_pyIter_enum he h
def iEnumT (K : PySem.W.Frag) (ta : TA) : TI := fun σ H R => ta σ H fun vs H1 => ∃ a xs, vs = [.ref a] ∧ SqT K H1 a xs ∧ R (IteT K a) H1
theorem pi_enumT {X : Cx} {e : Expr} {ta : TA} {p pos tpos : Pos} {elts : List Expr} {kk : Nat} (hg : Gl X "enumerate") (hm : X.mg "enumerate" = none) (ha : PA X [e] ta) (hs : starEach [e] X.env = [(false, eval e X.env)]) :
    PI X (.Tuple elts kk tpos) (.Call (.Name "enumerate" p) [e] [] pos) (iEnumT X.K ta) := by
  refine ⟨fun pins s σ H R I h => ?_⟩
  refine Call_ (ld_blt I hg hm boot_enumerate (PyProof.Rows.callWith_type1 (thn (ha.run pos pins s σ H _ I h) fun us s1 ⟨vs, H1, I1, r1, q1⟩ => ?_) hs rfl))
  obtain ⟨a, xs, ex, hq, q⟩ := q1
  subst ex
  cases r1 with
  | cons r rr =>
    cases rr
    cases r
    obtain ⟨its, rv, p', hz⟩ := I1.tuple hq
    have hal : a < s1.heap.objs.size := by obtain ⟨o, ho, _⟩ := p'; exact Heap.lt_size ho
    refine call_enum1B (begins_tuple a its.toArray) p' fun h' he hit hk => wpAny_pyIter_enum he ?_
    have I2 : Inv X pins σ H1 { s1 with heap := h' } := I1.kept (t' := s1.toks) hk
    refine ⟨s1.heap.objs.size + 1, [s1.heap.objs.size + 1, s1.heap.objs.size], _, _, H1, rfl, I2, turn_enumT a (s1.heap.objs.size + 1) s1.heap.objs.size (Nat.ne_of_lt (Nat.lt_succ_of_lt hal)) (Nat.ne_of_lt hal), ⟨⟨.none, he⟩, ⟨_, hit, rfl, rfl⟩, Nat.succ_ne_self _⟩, fun b hb => ?_, q⟩
    have e' : b = s1.heap.objs.size + 1 ∨ b = s1.heap.objs.size := by simpa using hb
    have hle : s1.heap.objs.size ≤ b := by
      rcases e' with z | z
      · rw [z]; exact Nat.le_add_right _ _
      · rw [z]; exact Nat.le_refl _
    exact I1.fpOk hle (I1.hok.fresh hle)
theorem walk_enumT {K : PySem.W.Frag} {a : Addr} {xs : List V} : Walk (IteT K a) xs.length (fun H => SqT K H a xs) (YPair (fun i => some (.int (i : Nat))) (fun i => xs[i]?)) := by
  refine ⟨fun i _ hi q => ⟨xs, xs[i], q, by simp [hi]⟩, fun _ q => ⟨xs, q, Nat.le_refl _⟩, fun i H v H' _ q y => ?_⟩
  obtain ⟨T, x, h1, h2, h3, h4⟩ := y
  exact ⟨T, .int (i : Nat), x, h1, h2, h3, rfl, h4 xs q⟩
end ME
set_option Elab.async false
set_option linter.all false
set_option maxRecDepth 100000
set_option maxHeartbeats 4000000
namespace ME
open PySem PySem.Spec PyProof.Rows L2
/-! ### walks -/
structure WK (K : PySem.W.Frag) (Z : PZ) (r : List Addr) (H : Hp) (it : Itm) (J : It) : Prop where
  ex : ∃ G Y, Walk J it.ds.length G Y ∧ ∀ Z2 r2 H2 m2, (∀ a, Z2 a → Z a ∨ H a = none) → Ext r H r2 H2 → SR K Z2 r2 H2 m2 → it.chk m2 = true → G H2 ∧ ∀ i x H', i < it.ds.length → Y i H2 x H' → ∃ d, it.ds[i]? = some d ∧ Ext r2 H2 r2 H' ∧ SR K Z2 r2 H' m2 ∧ VR K Z2 r2 H' d x
def GI (K : PySem.W.Frag) (Z : PZ) (r : List Addr) (H : Hp) (x : Res Itm) (R : It → Hp → Prop) (E : XK) : Prop := match x with
  | .ok it m => ∀ J H' r', Ext r H r' H' → SR K Z r' H' m → WK K Z r' H' it J → R J H'
  | .exc c es m => ∀ C o H' r', Ext r H r' H' → SR K Z r' H' m → ExcAt K Z r' H' c es C o → E C o H'
  | .stuck => False
def iT (K : PySem.W.Frag) (W : WX) (f : Env → Sto → Res Itm) : TI := fun σ H R => ∃ Z r δ m, RS K Z r H σ δ m ∧ GI K Z r H (f δ m) R (EW W σ)
section
variable {K : PySem.W.Frag} {Z Z2 : PZ} {r r' : List Addr} {H H' : Hp} {E : XK} {m : Sto}
theorem GI.ext {x : Res Itm} {R : It → Hp → Prop} (e : Ext r H r' H') (g : GI K Z r H x R E) : GI K Z r' H' x R E := by
  cases x with
  | ok d m => exact fun v H2 r2 e2 s h => g v H2 r2 (e.trans e2) s h
  | exc c es m => exact fun C o H2 r2 e2 s h => g C o H2 r2 (e.trans e2) s h
  | stuck => exact g
theorem GI.bind {x : Res D} {f : D → Sto → Res Itm} {R : It → Hp → Prop} (g : GI K Z r H (x.bind f) R E) :
    GE K Z r H x (fun v H1 => ∃ r1 d m1, Ext r H r1 H1 ∧ SR K Z r1 H1 m1 ∧ VR K Z r1 H1 d v ∧ x = .ok d m1 ∧ GI K Z r1 H1 (f d m1) R E) E := by
  cases x with
  | ok d m => exact fun v H2 r2 e2 s h => ⟨r2, d, m, e2, s, h, rfl, GI.ext e2 g⟩
  | exc c es m => exact g
  | stuck => exact g
theorem VRs.addZ' (l : ∀ a, Z2 a → Z a ∨ H a = none) {ds : List D} {xs : List V} (h : VRs K Z r H ds xs) : VRs K Z2 r H ds xs := VRs.addZ l ds h
theorem VRs.get' {ds : List D} {xs : List V} {n : Nat} {x : V} (h : VRs K Z r H ds xs) (e : xs[n]? = some x) : ∃ d, ds[n]? = some d ∧ VR K Z r H d x := by
  have hl := (List.getElem?_eq_some_iff.mp e).1
  rw [h.length] at hl
  obtain ⟨y, h1, h2⟩ := h.get (List.getElem?_eq_getElem hl)
  rw [e] at h1; cases h1
  exact ⟨_, List.getElem?_eq_getElem hl, h2⟩
/-- frozen items that stand at xs -/
theorem wk_at {J : It} {ds : List D} {xs : List V} {G : Hp → Prop} (hv : VRs K Z r H ds xs) (w : Walk J xs.length G (YAt xs)) (hg : ∀ r2 H2, Ext r H r2 H2 → G H2) : WK K Z r H ⟨ds, none⟩ J := by
  refine ⟨G, YAt xs, by rw [← hv.length]; exact w, fun Z2 r2 H2 m2 hz e s _ => ⟨hg r2 H2 e, fun i x H' hi y => ?_⟩⟩
  obtain ⟨rfl, hx⟩ := y
  obtain ⟨d, h1, h2⟩ := ((hv.addZ' hz).ext e).get' hx
  exact ⟨d, h1, .refl _ _, s, h2⟩
theorem wk_cell {n : Nat} {a : Addr} {ds : List D} (ha : r[n]? = some a) : WK K Z r H ⟨ds, some n⟩ (Itl K a) := by
  refine ⟨fun H2 => ∃ xs, H2 a = some (.lst xs) ∧ xs.length = ds.length, fun i H2 x H' => H' = H2 ∧ ∀ xs, H2 a = some (.lst xs) → xs[i]? = some x, ⟨fun i H2 hi ⟨xs, h1, h2⟩ => ?_, fun H2 ⟨xs, h1, h2⟩ => ?_, fun i H2 x H' hi ⟨xs, h1, h2⟩ y => ?_⟩, fun Z2 r2 H2 m2 hz e s hc => ?_⟩
  · have hi : i < xs.length := by rw [h2]; exact hi
    exact ⟨xs, xs[i], .inl (.inl h1), List.getElem?_eq_getElem hi⟩
  · exact ⟨xs, .inl (.inl h1), Nat.le_of_eq h2⟩
  · exact ⟨y.1, fun ys hy => y.2 ys (.inl (.inl hy))⟩
  · have hc : (match cellL m2 n with | some es => D.sames es ds | none => false) = true := hc
    split at hc
    · rename_i es em
      obtain rfl := D.sames_eq _ _ hc
      obtain ⟨xs, h1, h2⟩ := s.cellL (e.get ha) em
      refine ⟨⟨xs, h1, h2.length⟩, fun i x H' hi y => ?_⟩
      obtain ⟨rfl, y⟩ := y
      obtain ⟨d, h3, h4⟩ := h2.get' (y xs h1)
      exact ⟨d, h3, .refl _ _, s, h4⟩
    · cases hc
theorem wk_range {lo : Int} {n : Nat} : WK K Z r H ⟨rangeD lo n, none⟩ (L2.Itr lo n) := by
  have hl : (rangeD lo n).length = n := by unfold rangeD; simp
  refine ⟨_, _, by rw [hl]; exact walk_range, fun Z2 r2 H2 m2 hz e s _ => ⟨trivial, fun i x H' hi y => ?_⟩⟩
  obtain ⟨rfl, rfl⟩ := y
  refine ⟨.int (lo + i), ?_, .refl _ _, s, .intI⟩
  unfold rangeD
  rw [hl] at hi
  simp [hi]
theorem wk_str {z : Str} : WK K Z r H ⟨z.cps.toList.map fun c => D.str ⟨#[c]⟩, none⟩ (Its z) := by
  refine ⟨_, _, by rw [show (Itm.mk (z.cps.toList.map fun c => D.str ⟨#[c]⟩) none).ds.length = z.cps.size by simp]; exact walk_str, fun Z2 r2 H2 m2 hz e s _ => ⟨trivial, fun i x H' hi y => ?_⟩⟩
  obtain ⟨rfl, c, hc, rfl⟩ := y
  refine ⟨.str ⟨#[c]⟩, ?_, .refl _ _, s, .strI⟩
  show (z.cps.toList.map fun c => D.str ⟨#[c]⟩)[i]? = _
  rw [List.getElem?_map, Array.getElem?_toList, hc]
  rfl
theorem wk_enum {a : Addr} {ds : List D} {xs : List V} (hv : VRs K Z r H ds xs) (hg : ∀ r2 H2, Ext r H r2 H2 → SqL K H2 a xs) : WK K Z r H ⟨ds.mapIdx fun i v => D.tup [.int (i : Nat), v], none⟩ (Ite K a) := by
  refine ⟨_, _, by rw [show (Itm.mk (ds.mapIdx fun i v => D.tup [.int (i : Nat), v]) none).ds.length = xs.length by simp [hv.length]]; exact walk_enum, fun Z2 r2 H2 m2 hz e s _ => ⟨hg r2 H2 e, fun i x H' hi y => ?_⟩⟩
  obtain ⟨T, x1, x2, rfl, h1, rfl, h2, h3⟩ := y
  cases h2
  obtain ⟨d, h4, h5⟩ := ((hv.addZ' hz).ext e).get' h3
  refine ⟨.tup [.int (i : Nat), d], ?_, .obj h1, s.obj h1, ?_⟩
  · show (ds.mapIdx fun i v => D.tup [.int (i : Nat), v])[i]? = _
    rw [List.getElem?_mapIdx, h4]; rfl
  · rw [VR]
    exact ⟨T, _, rfl, .inl ⟨.inl upd_same, s.fresh h1⟩, VRs.obj (.cons .intI (.cons h5 .nil)) h1⟩
end
theorem wk_enumT {K : PySem.W.Frag} {Z : PZ} {r : List Addr} {H : Hp} {a : Addr} {ds : List D} {xs : List V} (hv : VRs K Z r H ds xs) (hg : ∀ r2 H2, Ext r H r2 H2 → SqT K H2 a xs) : WK K Z r H ⟨ds.mapIdx fun i v => D.tup [.int (i : Nat), v], none⟩ (IteT K a) := by
  refine ⟨_, _, by rw [show (Itm.mk (ds.mapIdx fun i v => D.tup [.int (i : Nat), v]) none).ds.length = xs.length by simp [hv.length]]; exact walk_enumT, fun Z2 r2 H2 m2 hz e s _ => ⟨hg r2 H2 e, fun i x H' hi y => ?_⟩⟩
  obtain ⟨T, x1, x2, rfl, h1, rfl, h2, h3⟩ := y
  cases h2
  obtain ⟨d, h4, h5⟩ := ((hv.addZ' hz).ext e).get' h3
  refine ⟨.tup [.int (i : Nat), d], ?_, .obj h1, s.obj h1, ?_⟩
  · show (ds.mapIdx fun i v => D.tup [.int (i : Nat), v])[i]? = _
    rw [List.getElem?_mapIdx, h4]; rfl
  · rw [VR]
    exact ⟨T, _, rfl, .inl ⟨.inl upd_same, s.fresh h1⟩, VRs.obj (.cons .intI (.cons h5 .nil)) h1⟩
section
variable {X : Cx} {W : WX} {N : List Str} {sc : Scope} {a b c e o tg : PySem.Expr} {es rest : List PySem.Expr} {fa fb fc : Env → Sto → Res D} {fs : Env → Sto → Res (List D)} {pos : Pos} {ix iy : List Nat}
theorem _root_.L2.PI.imp {X : Cx} {tg e : PySem.Expr} {t t' : TI} (h : PI X tg e t) (i : ∀ σ H R, t' σ H R → t σ H R) : PI X tg e t' := ⟨fun pins s σ H R I q => h.run pins s σ H R I (i σ H R q)⟩
theorem iT_step {f : Env → Sto → Res D} {g : D → Sto → Res Itm} {σ : L2.St} {H : Hp} {Q : It → Hp → Prop} {R : V → Hp → Prop} (h : iT X.K W (fun d m => (f d m).bind g) σ H Q)
    (k : ∀ Z r δ m d v H1, RS X.K Z r H1 σ δ m → VR X.K Z r H1 d v → GI X.K Z r H1 (g d m) Q (EW W σ) → R v H1) : tE X.K W f σ H R := by
  obtain ⟨Z, r, δ, m, rs, g0⟩ := h
  refine ⟨Z, r, δ, m, rs, g0.bind.mono fun v H1 ⟨r1, d, m1, e1, s1, h1, _, g1⟩ => ?_⟩
  exact k Z r1 δ m1 d v H1 (rs.ext e1 s1) h1 g1
theorem i_lst (ha : PE X a (tE X.K W fa)) : PI X tg a (iT X.K W fun d m => (fa d m).bind itLst) :=
  (pi_list ha).imp fun σ H R h => iT_step h fun Z r δ m d v H1 rs hv g => by
    unfold itLst at g
    split at g
    · obtain ⟨p, xs, rfl, h1, h2⟩ := hv.lst_inv
      exact ⟨p, rfl, ⟨xs, h1.sq⟩, g _ _ _ (.refl _ _) rs.sr (wk_at h2 walk_list fun r2 H2 e => .inl (.inl (e.keep _ _ h1.1 fun z => h1.2 (.inr z))))⟩
    · obtain ⟨p, xs, rfl, h1, h2⟩ := hv.rol_inv
      exact ⟨p, rfl, ⟨xs, h1.sq⟩, g _ _ _ (.refl _ _) rs.sr (wk_at h2 walk_list fun r2 H2 e => h1.elim (fun z => .inl (e.rd z.1 z.2).1) StatL.sq)⟩
    · split at g
      · rename_i ds ed
        obtain ⟨p, rfl, hp⟩ := hv.ref_inv
        obtain ⟨xs, h1, h2⟩ := rs.sr.cellL hp ed
        exact ⟨p, rfl, ⟨xs, .inl (.inl h1)⟩, g _ _ _ (.refl _ _) rs.sr (wk_cell hp)⟩
      · exact g.elim
    · exact g.elim
theorem i_tup (ha : PE X a (tE X.K W fa)) : PI X tg a (iT X.K W fun d m => (fa d m).bind fun x m1 => (match x with
    | .tup ds => .ok ⟨ds, none⟩ m1
    | _ => .stuck)) :=
  (pi_tup ha).imp fun σ H R h => iT_step h fun Z r δ m d v H1 rs hv g => by
    split at g
    · obtain ⟨p, xs, rfl, h1, h2⟩ := hv.tup_inv
      exact ⟨p, rfl, ⟨xs, h1.sq⟩, g _ _ _ (.refl _ _) rs.sr (wk_at h2 walk_tup fun r2 H2 e => h1.elim (fun z => .inl (e.rd z.1 z.2).1) StatT.sq)⟩
    · exact g.elim
theorem i_str (ha : PE X a (tE X.K W fa)) : PI X tg a (iT X.K W fun d m => (fa d m).bind fun x m1 => (match x with
    | .str z => .ok ⟨z.cps.toList.map fun c => D.str ⟨#[c]⟩, none⟩ m1
    | _ => .stuck)) :=
  (pi_str ha).imp fun σ H R h => iT_step h fun Z r δ m d v H1 rs hv g => by
    split at g
    · exact ⟨_, hv.str_inv, g _ _ _ (.refl _ _) rs.sr wk_str⟩
    · exact g.elim
theorem i_any (ha : PE X a (tE X.K W fa)) : PI X tg a (iT X.K W fun d m => (fa d m).bind itAny) := by
  refine ⟨fun pins s σ H R I ⟨Z, r, δ, m, rs, g⟩ => ?_⟩
  dsimp only at g
  cases q : fa δ m with
  | exc c es m1 => rw [q] at g; exact (i_lst ha).run pins s σ H R I ⟨Z, r, δ, m, rs, by dsimp only; rw [q]; exact g⟩
  | stuck => rw [q] at g; exact g.elim
  | ok d m1 =>
    rw [q] at g
    cases d with
    | tup ds => exact (i_tup ha).run pins s σ H R I ⟨Z, r, δ, m, rs, by dsimp only; rw [q]; exact g⟩
    | str z => exact (i_str ha).run pins s σ H R I ⟨Z, r, δ, m, rs, by dsimp only; rw [q]; exact g⟩
    | lst ds => exact (i_lst ha).run pins s σ H R I ⟨Z, r, δ, m, rs, by dsimp only; rw [q]; exact g⟩
    | rol ds => exact (i_lst ha).run pins s σ H R I ⟨Z, r, δ, m, rs, by dsimp only; rw [q]; exact g⟩
    | ref n => exact (i_lst ha).run pins s σ H R I ⟨Z, r, δ, m, rs, by dsimp only; rw [q]; exact g⟩
    | _ => exact g.elim
theorem i_rng1 (S : SX X W N sc) {p : Pos} (hm : X.mg "range" = none) (hg : gloB sc "range" = true) (hs : notStar a = true) (ha : PE X a (tE X.K W fa)) : PI X tg (.Call (.Name "range" p) [a] [] pos) (iT X.K W fun d m => (fa d m).bind fun x m1 => (match x with
    | .int n => if -(2 ^ 62) ≤ n ∧ n < 2 ^ 62 then .ok ⟨rangeD 0 n.toNat, none⟩ m1 else .stuck
    | _ => .stuck)) :=
  (pi_range1 (S.gl hg) hm (pa_cons ha pa_nil (star1 hs)) (star1 hs)).imp fun σ H R h => iT_step (R := fun v H1 => ∃ j : Int, [v] = [.int j] ∧ -(2 ^ 62) ≤ j ∧ j < 2 ^ 62 ∧ R (L2.Itr 0 j.toNat) H1) h fun Z r δ m d v H1 rs hv g => by
    split at g
    · rename_i n
      split at g
      · rename_i hn
        obtain rfl := hv.int_inv
        exact ⟨n, rfl, hn.1, hn.2, g _ _ _ (.refl _ _) rs.sr wk_range⟩
      · exact g.elim
    · exact g.elim
theorem i_rng2 (S : SX X W N sc) {p : Pos} (hm : X.mg "range" = none) (hg : gloB sc "range" = true) (hs : notStar a = true) (hs2 : notStar b = true) (ha : PE X a (tE X.K W fa)) (hb : PE X b (tE X.K W fb)) :
    PI X tg (.Call (.Name "range" p) [a, b] [] pos) (iT X.K W fun d m => (fa d m).bind fun x m1 => (fb d m1).bind fun y m2 => (match x, y with
    | .int i, .int j => if -(2 ^ 62) ≤ i ∧ i < 2 ^ 62 ∧ -(2 ^ 62) ≤ j ∧ j < 2 ^ 62 then .ok ⟨rangeD i (j - i).toNat, none⟩ m2 else .stuck
    | _, _ => .stuck)) :=
  (pi_range2 (S.gl hg) hm (pa_cons ha (pa_cons hb pa_nil (star1 hs2)) (star1 hs)) (by rw [star1 hs, star1 hs2]; rfl) (star1 hs2)).imp fun σ H R h => by
    obtain ⟨Z, r, δ, m, rs, g0⟩ := h
    refine ⟨Z, r, δ, m, rs, g0.bind.mono fun v H1 ⟨r1, d, m1, e1, s1, h1, _, g1⟩ => ?_⟩
    refine ⟨Z, r1, δ, m1, rs.ext e1 s1, g1.bind.mono fun u H2 ⟨r2, e, m2, e2, s2, h2, _, g2⟩ => ?_⟩
    split at g2
    · rename_i i j _ _ _
      split at g2
      · rename_i hn
        obtain rfl := h1.int_inv
        obtain rfl := h2.int_inv
        exact ⟨i, j, rfl, hn, g2 _ _ _ (.refl _ _) s2 wk_range⟩
      · exact g2.elim
    · exact g2.elim
theorem i_enumL (S : SX X W N sc) {p tp : Pos} {el : List PySem.Expr} {kk : Nat} (hm : X.mg "enumerate" = none) (hg : gloB sc "enumerate" = true) (hs : notStar a = true) (ha : PE X a (tE X.K W fa)) : PI X (.Tuple el kk tp) (.Call (.Name "enumerate" p) [a] [] pos) (iT X.K W fun d m => (fa d m).bind itEnum) := by
  have hl : PI X (.Tuple el kk tp) (.Call (.Name "enumerate" p) [a] [] pos) (iT X.K W fun d m => (fa d m).bind fun x m1 => (match x with
    | .lst ds => .ok ⟨ds.mapIdx fun i v => D.tup [.int (i : Nat), v], none⟩ m1
    | .rol ds => .ok ⟨ds.mapIdx fun i v => D.tup [.int (i : Nat), v], none⟩ m1
    | _ => .stuck)) :=
    (pi_enum (S.gl hg) hm (pa_cons ha pa_nil (star1 hs)) (star1 hs)).imp fun σ H R h => iT_step (R := fun v H1 => ∃ a xs, [v] = [.ref a] ∧ SqL X.K H1 a xs ∧ R (Ite X.K a) H1) h fun Z r δ m d v H1 rs hv g => by
      split at g
      · obtain ⟨p, xs, rfl, h1, h2⟩ := hv.lst_inv
        exact ⟨p, xs, rfl, h1.sq, g _ _ _ (.refl _ _) rs.sr (wk_enum h2 fun r2 H2 e => .inl (.inl (e.keep _ _ h1.1 fun z => h1.2 (.inr z))))⟩
      · obtain ⟨p, xs, rfl, h1, h2⟩ := hv.rol_inv
        exact ⟨p, xs, rfl, h1.sq, g _ _ _ (.refl _ _) rs.sr (wk_enum h2 fun r2 H2 e => h1.elim (fun z => .inl (e.rd z.1 z.2).1) StatL.sq)⟩
      · exact g.elim
  have ht : PI X (.Tuple el kk tp) (.Call (.Name "enumerate" p) [a] [] pos) (iT X.K W fun d m => (fa d m).bind fun x m1 => (match x with
    | .tup ds => .ok ⟨ds.mapIdx fun i v => D.tup [.int (i : Nat), v], none⟩ m1
    | _ => .stuck)) :=
    (pi_enumT (S.gl hg) hm (pa_cons ha pa_nil (star1 hs)) (star1 hs)).imp fun σ H R h => iT_step (R := fun v H1 => ∃ a xs, [v] = [.ref a] ∧ SqT X.K H1 a xs ∧ R (IteT X.K a) H1) h fun Z r δ m d v H1 rs hv g => by
      split at g
      · obtain ⟨p, xs, rfl, h1, h2⟩ := hv.tup_inv
        exact ⟨p, xs, rfl, h1.sq, g _ _ _ (.refl _ _) rs.sr (wk_enumT h2 fun r2 H2 e => h1.elim (fun z => .inl (e.rd z.1 z.2).1) StatT.sq)⟩
      · exact g.elim
  refine ⟨fun pins s σ H R I ⟨Z, r, δ, m, rs, g⟩ => ?_⟩
  dsimp only at g
  cases q : fa δ m with
  | exc c es m1 => rw [q] at g; exact hl.run pins s σ H R I ⟨Z, r, δ, m, rs, by dsimp only; rw [q]; exact g⟩
  | stuck => rw [q] at g; exact g.elim
  | ok d m1 =>
    rw [q] at g
    cases d with
    | tup ds => exact ht.run pins s σ H R I ⟨Z, r, δ, m, rs, by dsimp only; rw [q]; exact g⟩
    | lst ds => exact hl.run pins s σ H R I ⟨Z, r, δ, m, rs, by dsimp only; rw [q]; exact g⟩
    | rol ds => exact hl.run pins s σ H R I ⟨Z, r, δ, m, rs, by dsimp only; rw [q]; exact g⟩
    | _ => exact g.elim
end
/-! ### comprehensions -/
section
variable {K : PySem.W.Frag} {Z Z2 : PZ} {r r' : List Addr} {H H' : Hp} {m : Sto} {D0 : Addr} {o : HO}
/- a held cell that is not ours is written -/
mutual
theorem VR.out (hz : Z D0) : ∀ (d : D) {v : V}, VR K Z r H d v → VR K Z r (upd H D0 o) d v
  | .non, v, h => by simpa [VR] using h
  | .bl b, v, h => by simpa [VR] using h
  | .int i, v, h => by simpa [VR] using h
  | .str x, v, h => by simpa [VR] using h
  | .tup ds, v, h => by
    rw [VR] at h ⊢
    obtain ⟨a, xs, ev, ht, hs⟩ := h
    refine ⟨a, xs, ev, ht.elim (fun z => .inl ⟨?_, z.2⟩) .inr, VRs.out hz ds hs⟩
    have : a ≠ D0 := fun q => z.2 (.inl (by rw [q]; exact hz))
    unfold Rd
    rw [upd_ne this]
    exact z.1
  | .lst ds, v, h => by
    rw [VR] at h ⊢
    obtain ⟨a, xs, ev, ht, hs⟩ := h
    have : a ≠ D0 := fun q => ht.2 (.inl (by rw [q]; exact hz))
    exact ⟨a, xs, ev, ⟨by rw [upd_ne this]; exact ht.1, ht.2⟩, VRs.out hz ds hs⟩
  | .rol ds, v, h => by
    rw [VR] at h ⊢
    obtain ⟨a, xs, ev, ht, hs⟩ := h
    refine ⟨a, xs, ev, ht.elim (fun z => .inl ⟨?_, z.2⟩) .inr, VRs.out hz ds hs⟩
    have : a ≠ D0 := fun q => z.2 (.inl (by rw [q]; exact hz))
    unfold Rd
    rw [upd_ne this]
    exact z.1
  | .obj c ns fs, v, h => by
    rw [VR] at h ⊢
    obtain ⟨a, dx, xs, ev, ht, hn, hl, hs⟩ := h
    have : a ≠ D0 := fun q => hn (.inl (by rw [q]; exact hz))
    exact ⟨a, dx, xs, ev, by rw [upd_ne this]; exact ht, hn, hl, VRs.out hz fs hs⟩
  | .dct ks fs, v, h => by
    rw [VR] at h ⊢
    obtain ⟨a, xs, ev, ht, hn, hl, hs⟩ := h
    have : a ≠ D0 := fun q => hn (.inl (by rw [q]; exact hz))
    exact ⟨a, xs, ev, by rw [upd_ne this]; exact ht, hn, hl, VRs.out hz fs hs⟩
  | .ref n, v, h => by rw [VR] at h ⊢; exact h
theorem VRs.out (hz : Z D0) : ∀ (ds : List D) {xs : List V}, VRs K Z r H ds xs → VRs K Z r (upd H D0 o) ds xs
  | [], xs, h => by simpa [VRs] using h
  | d :: ds, xs, h => by
    rw [VRs] at h ⊢
    obtain ⟨x, t, ev, h1, h2⟩ := h
    exact ⟨x, t, ev, VR.out hz d h1, VRs.out hz ds h2⟩
end
theorem CR.at {Z Z2 : PZ} {r r' : List Addr} {H H' : Hp} {c : Cell} {a : Addr} (ha : H' a = H a) (f : ∀ ds xs, VRs K Z r H ds xs → VRs K Z2 r' H' ds xs) (h : CR K Z r H c a) : CR K Z2 r' H' c a := by
  cases c with
  | lst ds => obtain ⟨xs, e, hs⟩ := h; exact ⟨xs, ha.trans e, f _ _ hs⟩
  | dct ks ds => obtain ⟨xs, e, hl, hs⟩ := h; exact ⟨xs, ha.trans e, hl, f _ _ hs⟩
  | ins c ns fs => obtain ⟨dx, xs, e, hl, hs⟩ := h; exact ⟨dx, xs, ha.trans e, hl, f _ _ hs⟩
  | lok ks ds => obtain ⟨o, xs, e, hl, hs⟩ := h; exact ⟨o, xs, ha.trans e, hl, f _ _ hs⟩
theorem SR.out (hz : Z D0) (hr : D0 ∉ r) (s : SR K Z r H m) : SR K Z r (upd H D0 o) m := by
  refine ⟨s.len, s.nd, fun n c a e1 e2 => ?_, fun a z => ?_, s.zr⟩
  · refine (s.cells n c a e1 e2).at (upd_ne ?_) fun ds xs h => VRs.out hz ds h
    rintro rfl
    exact hr (List.mem_of_getElem? e2)
  · by_cases q : a = D0
    · subst q; rw [upd_same]; exact fun z => by cases z
    · rw [upd_ne q]; exact s.zt a z
theorem SR.held (s : SR K Z r H m) (hD : H D0 = none) : SR K (fun a => Z a ∨ a = D0) r (upd H D0 o) m := by
  refine ⟨s.len, s.nd, fun n c a e1 e2 => ?_, fun a z => ?_, fun a ha z => z.elim (s.zr a ha) fun z => s.tracked ha (by rw [z]; exact hD)⟩
  · have q := s.cells n c a e1 e2
    refine q.at (upd_ne fun z => q.some (by rw [z]; exact hD)) fun ds xs h => ?_
    exact (h.addZ' (Z2 := fun a => Z a ∨ a = D0) fun a z => z.elim .inl fun z => .inr (by rw [z]; exact hD)).ext (.obj hD)
  · by_cases q : a = D0
    · subst q; rw [upd_same]; exact fun z => by cases z
    · rw [upd_ne q]; exact s.zt a (z.resolve_right q)
theorem Ext.other {r2 : List Addr} {H2 : Hp} (e : Ext r H r2 H2) (hD : H D0 = none) : Ext r H r2 (upd H2 D0 o) := by
  refine ⟨⟨e.pre, fun a u h hr => ?_, fun a h => ?_⟩, fun a u w h => by rw [upd_ne (ne_of_none h hD)]; exact e.fz a u w h⟩
  · rw [upd_ne (ne_of_none h hD)]; exact e.keep a u h hr
  · by_cases q : a = D0
    · subst q; exact absurd hD h
    · rw [upd_ne q]; exact e.still a h
end
abbrev W0 : WX := fun _ _ _ _ => False
theorem lc_imp {K : PySem.W.Frag} {W : WX} {fi : Env → Sto → Res Itm} {ft : D → Env → Sto → Res Env} {fb : Env → Sto → Res Bool} {fe : Env → Sto → Res D} {ix vs : List Nat} (hix : ∀ i ∈ ix, i ∈ vs) {σ : L2.St} {H : Hp} {Q : VK}
    (h : tE K W (fun d m => (fi d m).bind fun items m1 => lcLoop items.chk (fun v m => ft v (wipeE d vs) m) fb fe items.ds [] m1) σ H Q) : tLc (iT K W fi) (gT K ix ft) (tT K W0 fb) (tE K W0 fe) vs σ H Q := by
  obtain ⟨Z, r, δ, m, rs, g0⟩ := h
  refine ⟨Z, r, δ, m, rs, ?_⟩
  dsimp only at g0
  cases qi : fi δ m with
  | exc c es m1 => rw [qi] at g0; exact g0
  | stuck => rw [qi] at g0; exact g0
  | ok it m1 =>
    rw [qi] at g0
    intro J H1 r1 e1 s1 wk D0 hD
    have g1 : GE K Z r1 H1 (lcLoop it.chk (fun v m => ft v (wipeE δ vs) m) fb fe it.ds [] m1) Q (EW W σ) := GE.ext e1 g0
    obtain ⟨G, Y, w, hw⟩ := wk.ex
    have hZ : ∀ a, (Z a ∨ a = D0) → Z a ∨ H1 a = none := fun a z => z.elim .inl fun z => .inr (by rw [z]; exact hD)
    have chkd : ∀ ds acc m2, GE K Z r1 H1 (lcLoop it.chk (fun v m => ft v (wipeE δ vs) m) fb fe ds acc m2) Q (EW W σ) → it.chk m2 = true := by
      intro ds acc m2 g
      cases ds <;> (rw [lcLoop] at g; split at g <;> first | assumption | exact g.elim)
    refine lc_it w (fun i Hc => ∃ r2 m2 acc xs, Ext r1 H1 r2 Hc ∧ D0 ∉ r2 ∧ SR K (fun a => Z a ∨ a = D0) r2 Hc m2 ∧ Hc D0 = some (.lst xs) ∧ VRs K (fun a => Z a ∨ a = D0) r2 Hc acc xs ∧
      GE K Z r1 H1 (lcLoop it.chk (fun v m => ft v (wipeE δ vs) m) fb fe (it.ds.drop i) acc m2) Q (EW W σ)) ?_ ?_ ?_ ?_
    · exact ⟨r1, m1, [], [], .obj hD, fun z => s1.tracked z hD, s1.held hD, upd_same, .nil, g1⟩
    · rintro i Hc _ ⟨r2, m2, acc, xs, e2, hr2, s2, hx, hv, g⟩
      exact (hw _ r2 Hc m2 hZ e2 s2 (chkd _ _ _ g)).1
    · rintro i x Hc H' hi ⟨r2, m2, acc, xs, e2, hr2, s2, hx, hv, g⟩ y
      have hc := chkd _ _ _ g
      obtain ⟨d, hd, e3, s3, h3⟩ := (hw _ r2 Hc m2 hZ e2 s2 hc).2 i x H' hi y
      have hdr : it.ds.drop i = d :: it.ds.drop (i + 1) := by
        have hl := (List.getElem?_eq_some_iff.mp hd)
        rw [List.drop_eq_getElem_cons hl.1, hl.2]
      rw [hdr, lcLoop, if_pos hc] at g
      have rs2 : RS K (fun a => Z a ∨ a = D0) r2 H' (L2.wipe σ vs) (wipeE δ vs) m2 := by
        have R0 : RS K Z r1 H1 σ δ m1 := rs.ext e1 s1
        refine RS.wipe ⟨R0.len, fun j d' hj => ?_, s3⟩ vs
        obtain ⟨v, h1, h2⟩ := R0.vs j d' hj
        exact ⟨v, h1, (VR.addZ hZ d' h2).ext (e2.trans e3)⟩
      cases q1 : ft d (wipeE δ vs) m2 with
      | exc c es m => rw [q1] at g; exact g.elim
      | stuck => rw [q1] at g; exact g.elim
      | ok δ1 m3 =>
        rw [q1] at g
        refine ⟨_, r2, _, m2, d, rs2, h3, δ1, m3, q1, fun σ1 H2 r3 e4 rs3 kp => ⟨kp.wiped hix, ?_⟩⟩
        refine ⟨_, r3, δ1, m3, rs3, ?_⟩
        have g : GE K Z r1 H1 ((fb δ1 m3).nox.bind fun b m2 => if b = true then (fe δ1 m2).nox.bind fun v m3 => (if acc.length < 1000000 then lcLoop it.chk (fun v m => ft v (wipeE δ vs) m) fb fe (it.ds.drop (i + 1)) (acc ++ [v]) m3 else .stuck) else lcLoop it.chk (fun v m => ft v (wipeE δ vs) m) fb fe (it.ds.drop (i + 1)) acc m2) Q (EW W σ) := g
        cases q2 : fb δ1 m3 with
        | exc c es m => rw [q2] at g; exact g.elim
        | stuck => rw [q2] at g; exact g.elim
        | ok bb m4 =>
          rw [q2] at g
          have g : GE K Z r1 H1 (if bb = true then (fe δ1 m4).nox.bind fun v m3 => (if acc.length < 1000000 then lcLoop it.chk (fun v m => ft v (wipeE δ vs) m) fb fe (it.ds.drop (i + 1)) (acc ++ [v]) m3 else .stuck) else lcLoop it.chk (fun v m => ft v (wipeE δ vs) m) fb fe (it.ds.drop (i + 1)) acc m4) Q (EW W σ) := g
          intro H3 r4 e5 s5
          have ea : Ext r2 Hc r4 H3 := (e3.trans e4).trans e5
          cases bb with
          | false =>
            rw [if_neg Bool.false_ne_true] at g ⊢
            exact ⟨r4, m4, acc, xs, e2.trans ea, ea.notin hx hr2, s5, ea.keep _ _ hx hr2, hv.ext ea, g⟩
          | true =>
            rw [if_pos rfl] at g ⊢
            refine ⟨_, r4, δ1, m4, rs3.ext e5 s5, ?_⟩
            cases q3 : fe δ1 m4 with
            | exc c es m => rw [q3] at g; exact g.elim
            | stuck => rw [q3] at g; exact g.elim
            | ok v m5 =>
              rw [q3] at g
              have g : GE K Z r1 H1 (if acc.length < 1000000 then lcLoop it.chk (fun v m => ft v (wipeE δ vs) m) fb fe (it.ds.drop (i + 1)) (acc ++ [v]) m5 else .stuck) Q (EW W σ) := g
              intro yv H4 r5 e6 s6 h6
              split at g
              · rename_i hlen
                have eb : Ext r2 Hc r5 H4 := ea.trans e6
                have hn := eb.notin hx hr2
                refine ⟨xs, eb.keep _ _ hx hr2, by rw [hv.length, ← size16]; omega, r5, m5, acc ++ [v], xs ++ [yv], (e2.trans eb).other hD, hn, s6.out (.inr rfl) hn, upd_same, ?_, g⟩
                exact VRs.out (.inr rfl) _ ((hv.ext eb).append (.cons h6 .nil))
              · exact g.elim
    · rintro Hc ⟨r2, m2, acc, xs, e2, hr2, s2, hx, hv, g⟩
      have hc := chkd _ _ _ g
      rw [List.drop_eq_nil_of_le (Nat.le_refl _), lcLoop, if_pos hc] at g
      have hsub : ∀ a, Held Z r2 a → Held (fun a => Z a ∨ a = D0) r2 a := fun a z => z.elim (fun z => .inl (.inl z)) .inr
      refine g _ Hc r2 e2 (s2.mapZ (fun ds xs h => VRs.subZ hsub ds h) (fun a z => s2.zt a (.inl z)) fun a ha z => s2.zr a ha (.inl z)) ?_
      rw [VR]
      refine ⟨D0, xs, rfl, ⟨hx, ?_⟩, VRs.subZ hsub _ hv⟩
      rintro (z | z)
      · exact s1.zt _ z hD
      · exact hr2 z
section
variable {K : PySem.W.Frag} {Z Z2 : PZ} {r r' : List Addr} {H : Hp}
/- what is held moves from Z to the cells -/
mutual
theorem VR.grow (l : ∀ a, a ∈ r' → Held Z2 r a) (l2 : ∀ a, Z a → Z2 a) (g : ∀ (n : Nat) a, r[n]? = some a → r'[n]? = some a) : ∀ (d : D) {v : V}, VR K Z2 r H d v → VR K Z r' H d v
  | .non, v, h => by simpa [VR] using h
  | .bl b, v, h => by simpa [VR] using h
  | .int i, v, h => by simpa [VR] using h
  | .str x, v, h => by simpa [VR] using h
  | .tup ds, v, h => by
    rw [VR] at h ⊢
    obtain ⟨a, xs, ev, ht, hs⟩ := h
    exact ⟨a, xs, ev, ht.elim (fun z => .inl ⟨z.1, fun q => z.2 (q.elim (fun q => .inl (l2 a q)) (l a))⟩) .inr, VRs.grow l l2 g ds hs⟩
  | .lst ds, v, h => by
    rw [VR] at h ⊢
    obtain ⟨a, xs, ev, ht, hs⟩ := h
    exact ⟨a, xs, ev, ⟨ht.1, fun q => ht.2 (q.elim (fun q => .inl (l2 a q)) (l a))⟩, VRs.grow l l2 g ds hs⟩
  | .rol ds, v, h => by
    rw [VR] at h ⊢
    obtain ⟨a, xs, ev, ht, hs⟩ := h
    exact ⟨a, xs, ev, ht.elim (fun z => .inl ⟨z.1, fun q => z.2 (q.elim (fun q => .inl (l2 a q)) (l a))⟩) .inr, VRs.grow l l2 g ds hs⟩
  | .obj c ns fs, v, h => by
    rw [VR] at h ⊢
    obtain ⟨a, dx, xs, ev, ht, hn, hl, hs⟩ := h
    exact ⟨a, dx, xs, ev, ht, fun q => hn (q.elim (fun q => .inl (l2 a q)) (l a)), hl, VRs.grow l l2 g fs hs⟩
  | .dct ks fs, v, h => by
    rw [VR] at h ⊢
    obtain ⟨a, xs, ev, ht, hn, hl, hs⟩ := h
    exact ⟨a, xs, ev, ht, fun q => hn (q.elim (fun q => .inl (l2 a q)) (l a)), hl, VRs.grow l l2 g fs hs⟩
  | .ref n, v, h => by
    rw [VR] at h ⊢
    obtain ⟨a, ev, hr⟩ := h
    exact ⟨a, ev, g n a hr⟩
theorem VRs.grow (l : ∀ a, a ∈ r' → Held Z2 r a) (l2 : ∀ a, Z a → Z2 a) (g : ∀ (n : Nat) a, r[n]? = some a → r'[n]? = some a) : ∀ (ds : List D) {xs : List V}, VRs K Z2 r H ds xs → VRs K Z r' H ds xs
  | [], xs, h => by simpa [VRs] using h
  | d :: ds, xs, h => by
    rw [VRs] at h ⊢
    obtain ⟨x, t, ev, h1, h2⟩ := h
    exact ⟨x, t, ev, VR.grow l l2 g d h1, VRs.grow l l2 g ds h2⟩
end
end
theorem lcM_imp {K : PySem.W.Frag} {W : WX} {fi : Env → Sto → Res Itm} {ft : D → Env → Sto → Res Env} {fb : Env → Sto → Res Bool} {fe : Env → Sto → Res D} {ix vs : List Nat} (hix : ∀ i ∈ ix, i ∈ vs) {σ : L2.St} {H : Hp} {Q : VK}
    (h : tE K W (fun d m => (fi d m).bind fun items m1 => lcLoopM items.chk (fun v m => ft v (wipeE d vs) m) fb fe items.ds [] m1) σ H Q) : tLc (iT K W fi) (gT K ix ft) (tT K W0 fb) (tE K W0 fe) vs σ H Q := by
  obtain ⟨Z, r, δ, m, rs, g0⟩ := h
  refine ⟨Z, r, δ, m, rs, ?_⟩
  dsimp only at g0
  cases qi : fi δ m with
  | exc c es m1 => rw [qi] at g0; exact g0
  | stuck => rw [qi] at g0; exact g0
  | ok it m1 =>
    rw [qi] at g0
    intro J H1 r1 e1 s1 wk D0 hD
    have g1 : GE K Z r1 H1 (lcLoopM it.chk (fun v m => ft v (wipeE δ vs) m) fb fe it.ds [] m1) Q (EW W σ) := GE.ext e1 g0
    obtain ⟨G, Y, w, hw⟩ := wk.ex
    have hZ : ∀ a, (Z a ∨ a = D0) → Z a ∨ H1 a = none := fun a z => z.elim .inl fun z => .inr (by rw [z]; exact hD)
    have chkd : ∀ ds acc m2, GE K Z r1 H1 (lcLoopM it.chk (fun v m => ft v (wipeE δ vs) m) fb fe ds acc m2) Q (EW W σ) → it.chk m2 = true := by
      intro ds acc m2 g
      cases ds <;> (rw [lcLoopM] at g; split at g <;> first | assumption | exact g.elim)
    refine lc_it w (fun i Hc => ∃ r2 m2 acc xs, Ext r1 H1 r2 Hc ∧ D0 ∉ r2 ∧ SR K (fun a => Z a ∨ a = D0) r2 Hc m2 ∧ Hc D0 = some (.lst xs) ∧ VRs K (fun a => Z a ∨ a = D0) r2 Hc acc xs ∧
      GE K Z r1 H1 (lcLoopM it.chk (fun v m => ft v (wipeE δ vs) m) fb fe (it.ds.drop i) acc m2) Q (EW W σ)) ?_ ?_ ?_ ?_
    · exact ⟨r1, m1, [], [], .obj hD, fun z => s1.tracked z hD, s1.held hD, upd_same, .nil, g1⟩
    · rintro i Hc _ ⟨r2, m2, acc, xs, e2, hr2, s2, hx, hv, g⟩
      exact (hw _ r2 Hc m2 hZ e2 s2 (chkd _ _ _ g)).1
    · rintro i x Hc H' hi ⟨r2, m2, acc, xs, e2, hr2, s2, hx, hv, g⟩ y
      have hc := chkd _ _ _ g
      obtain ⟨d, hd, e3, s3, h3⟩ := (hw _ r2 Hc m2 hZ e2 s2 hc).2 i x H' hi y
      have hdr : it.ds.drop i = d :: it.ds.drop (i + 1) := by
        have hl := (List.getElem?_eq_some_iff.mp hd)
        rw [List.drop_eq_getElem_cons hl.1, hl.2]
      rw [hdr, lcLoopM, if_pos hc] at g
      have rs2 : RS K (fun a => Z a ∨ a = D0) r2 H' (L2.wipe σ vs) (wipeE δ vs) m2 := by
        have R0 : RS K Z r1 H1 σ δ m1 := rs.ext e1 s1
        refine RS.wipe ⟨R0.len, fun j d' hj => ?_, s3⟩ vs
        obtain ⟨v, h1, h2⟩ := R0.vs j d' hj
        exact ⟨v, h1, (VR.addZ hZ d' h2).ext (e2.trans e3)⟩
      cases q1 : ft d (wipeE δ vs) m2 with
      | exc c es m => rw [q1] at g; exact g.elim
      | stuck => rw [q1] at g; exact g.elim
      | ok δ1 m3 =>
        rw [q1] at g
        refine ⟨_, r2, _, m2, d, rs2, h3, δ1, m3, q1, fun σ1 H2 r3 e4 rs3 kp => ⟨kp.wiped hix, ?_⟩⟩
        refine ⟨_, r3, δ1, m3, rs3, ?_⟩
        have g : GE K Z r1 H1 ((fb δ1 m3).nox.bind fun b m2 => if b = true then (fe δ1 m2).nox.bind fun v m3 => (if acc.length < 1000000 then lcLoopM it.chk (fun v m => ft v (wipeE δ vs) m) fb fe (it.ds.drop (i + 1)) (acc ++ [v]) m3 else .stuck) else lcLoopM it.chk (fun v m => ft v (wipeE δ vs) m) fb fe (it.ds.drop (i + 1)) acc m2) Q (EW W σ) := g
        cases q2 : fb δ1 m3 with
        | exc c es m => rw [q2] at g; exact g.elim
        | stuck => rw [q2] at g; exact g.elim
        | ok bb m4 =>
          rw [q2] at g
          have g : GE K Z r1 H1 (if bb = true then (fe δ1 m4).nox.bind fun v m3 => (if acc.length < 1000000 then lcLoopM it.chk (fun v m => ft v (wipeE δ vs) m) fb fe (it.ds.drop (i + 1)) (acc ++ [v]) m3 else .stuck) else lcLoopM it.chk (fun v m => ft v (wipeE δ vs) m) fb fe (it.ds.drop (i + 1)) acc m4) Q (EW W σ) := g
          intro H3 r4 e5 s5
          have ea : Ext r2 Hc r4 H3 := (e3.trans e4).trans e5
          cases bb with
          | false =>
            rw [if_neg Bool.false_ne_true] at g ⊢
            exact ⟨r4, m4, acc, xs, e2.trans ea, ea.notin hx hr2, s5, ea.keep _ _ hx hr2, hv.ext ea, g⟩
          | true =>
            rw [if_pos rfl] at g ⊢
            refine ⟨_, r4, δ1, m4, rs3.ext e5 s5, ?_⟩
            cases q3 : fe δ1 m4 with
            | exc c es m => rw [q3] at g; exact g.elim
            | stuck => rw [q3] at g; exact g.elim
            | ok v m5 =>
              rw [q3] at g
              have g : GE K Z r1 H1 (if acc.length < 1000000 then lcLoopM it.chk (fun v m => ft v (wipeE δ vs) m) fb fe (it.ds.drop (i + 1)) (acc ++ [v]) m5 else .stuck) Q (EW W σ) := g
              intro yv H4 r5 e6 s6 h6
              split at g
              · rename_i hlen
                have eb : Ext r2 Hc r5 H4 := ea.trans e6
                have hn := eb.notin hx hr2
                refine ⟨xs, eb.keep _ _ hx hr2, by rw [hv.length, ← size16]; omega, r5, m5, acc ++ [v], xs ++ [yv], (e2.trans eb).other hD, hn, s6.out (.inr rfl) hn, upd_same, ?_, g⟩
                exact VRs.out (.inr rfl) _ ((hv.ext eb).append (.cons h6 .nil))
              · exact g.elim
    · rintro Hc ⟨r2, m2, acc, xs, e2, hr2, s2, hx, hv, g⟩
      have hc := chkd _ _ _ g
      rw [List.drop_eq_nil_of_le (Nat.le_refl _), lcLoopM, if_pos hc] at g
      have hsub : ∀ a, Held Z r2 a → Held (fun a => Z a ∨ a = D0) r2 a := fun a z => z.elim (fun z => .inl (.inl z)) .inr
      have sb := s2.mapZ (fun ds xs h => VRs.subZ hsub ds h) (fun a z => s2.zt a (.inl z)) fun a ha z => s2.zr a ha (.inl z)
      have hnz : ¬ Z D0 := fun z => s1.zt _ z hD
      have ea : Ext r2 Hc (r2 ++ [D0]) Hc → True := fun _ => trivial
      have ev' : ∀ {ds : List D} {xs : List V}, VRs K (fun a => Z a ∨ a = D0) r2 Hc ds xs → VRs K Z (r2 ++ [D0]) Hc ds xs := fun {ds xs} h => VRs.grow (fun a z => (List.mem_append.mp z).elim (fun z => .inr z) fun z => .inl (.inr (List.mem_singleton.mp z))) (fun a z => .inl z) (fun n a e => by rw [List.getElem?_append_left (List.getElem?_eq_some_iff.mp e).1]; exact e) ds h
      refine g _ Hc (r2 ++ [D0]) ?_ ⟨by simp [s2.len], ?_, fun n c a e1 e3 => ?_, fun a z => s2.zt a (.inl z), fun a ha z => ?_⟩ ?_
      · obtain ⟨t, rfl, ht⟩ := e2.pre
        exact ⟨⟨⟨t ++ [D0], by rw [List.append_assoc], fun a ha => (List.mem_append.mp ha).elim (ht a) fun z => by rw [List.mem_singleton.mp z]; exact hD⟩, e2.keep, e2.still⟩, e2.fz⟩
      · refine List.nodup_append.mpr ⟨s2.nd, by simp, fun a ha b hb => ?_⟩
        rw [List.mem_singleton.mp hb]
        rintro rfl
        exact hr2 ha
      · by_cases hn : n < m2.length
        · rw [List.getElem?_append_left hn] at e1
          rw [List.getElem?_append_left (by rw [s2.len]; exact hn)] at e3
          exact (s2.cells n c a e1 e3).at rfl fun ds xs h => ev' h
        · have hz : n = m2.length := by
            have := (List.getElem?_eq_some_iff.mp e1).1
            simp at this; omega
          subst hz
          have e1' : Cell.lst acc = c := by simpa using e1
          have e3' : D0 = a := by rw [← s2.len] at e3; simpa using e3
          subst e1' e3'
          exact ⟨xs, hx, ev' hv⟩
      · rcases List.mem_append.mp ha with q | q
        · exact s2.zr a q (.inl z)
        · rw [List.mem_singleton.mp q] at z; exact hnz z
      · rw [VR]
        refine ⟨D0, rfl, ?_⟩
        rw [← s2.len]; simp
/-! ### forms told elsewhere: what is asked of them -/
def PEs (X : Cx) (W : WX) : List PySem.Expr → List (Env → Sto → Res D) → Prop
  | [], [] => True
  | e :: es, f :: fl => PE X e (tE X.K W f) ∧ PEs X W es fl
  | _, _ => False
def GenOk (g : Gw) (G : Gn) : Prop := ∀ (X : Cx) (W : WX) (N : List Str) (sc : Scope), gw X = g → SX X W N sc → ∀ (e : PySem.Expr) (l : List PySem.Expr), G.sub sc e = some l → ∀ fl, PEs X W l fl → PE X e (tE X.K W (G.ev fl))
def GenIOk (g : Gw) (G : Gi) : Prop := ∀ (X : Cx) (W : WX) (N : List Str) (sc : Scope), gw X = g → SX X W N sc → ∀ (e tg : PySem.Expr) (l : List PySem.Expr), G.sub sc e tg = some l → ∀ fl, PEs X W l fl → PI X tg e (iT X.K W (G.ev fl))
mutual
def OkE (g : Gw) : Ex → Prop
  | .glo x d => GloOk g x d
  | .bin _ a b => OkE g a ∧ OkE g b
  | .neg a => OkE g a
  | .nt a => OkE g a
  | .and es => OkEs g es
  | .or es => OkEs g es
  | .cmp _ a b => OkE g a ∧ OkE g b
  | .chn _ _ a b c => OkE g a ∧ OkE g b ∧ OkE g c
  | .ite c a b => OkE g c ∧ OkE g a ∧ OkE g b
  | .tup es => OkEs g es
  | .lst es => OkEs g es
  | .lstM es => OkEs g es
  | .idx a b => OkE g a ∧ OkE g b
  | .get a b => OkE g a ∧ OkE g b
  | .slc a lo hi => OkE g a ∧ OkEs g lo ∧ OkEs g hi
  | .rev a => OkE g a
  | .bf b es => g.mg b.name = none ∧ OkEs g es
  | .tupR a => g.mg "tuple" = none ∧ g.mg "range" = none ∧ OkE g a
  | .isi a t cs => IsiOk g t cs ∧ OkE g a
  | .bm _ o es => OkE g o ∧ OkEs g es
  | .callK x F ks perm es => CallKOk g x F ks perm ∧ OkEs g es
  | .call x F es => CallOk g x F ∧ OkEs g es
  | .mth c o m F es => MthOk g c m F ∧ OkE g o ∧ OkEs g es
  | .new c F es => NewOk g c F ∧ OkEs g es
  | .fld c o f => FldOk g c f ∧ OkE g o
  | .prp c o f F => PrpOk g c f F ∧ OkE g o
  | .lc elt t it ifs _ => OkE g elt ∧ OkT g t ∧ OkI g it ∧ OkEs g ifs
  | .lcM elt t it ifs _ => OkE g elt ∧ OkT g t ∧ OkI g it ∧ OkEs g ifs
  | .gen G es => GenOk g G ∧ OkEs g es
  | _ => True
def OkEs (g : Gw) : Exs → Prop
  | .nil => True
  | .cons e es => OkE g e ∧ OkEs g es
def OkT (g : Gw) : Tgt → Prop
  | .name _ => True
  | .tup ts => OkTs g ts
  | .sub o i => OkE g o ∧ OkE g i
  | .put o i => OkE g o ∧ OkE g i
  | .att c o f => FldOk g c f ∧ OkE g o
def OkTs (g : Gw) : Tgts → Prop
  | .nil => True
  | .cons t ts => OkT g t ∧ OkTs g ts
def OkI (g : Gw) : Itr → Prop
  | .lst e => OkE g e
  | .rng1 e => g.mg "range" = none ∧ OkE g e
  | .rng2 a b => g.mg "range" = none ∧ OkE g a ∧ OkE g b
  | .enumL e => g.mg "enumerate" = none ∧ OkE g e
  | .gen G es => GenIOk g G ∧ OkEs g es
end
end ME
set_option Elab.async false
set_option linter.all false
set_option maxRecDepth 100000
set_option maxHeartbeats 4000000
namespace ME
open PySem PySem.Spec PyProof.Rows L2
theorem SX.blk {X : Cx} {W : WX} {N : List Str} {sc : Scope} (S : SX X W N sc) (s : Shared) (H : Hp) (scope : Scope) (C : Addr) (cl : List (Str × Addr)) (fp : List Addr) : SX (X.blk s H scope (compEnvC scope cl C X.env) fp) W0 N (relS scope sc) :=
  ⟨S.hN, S.nd, by rw [← S.hs]; rfl, L2.takes0, S.calm, S.hu, S.gd⟩
theorem mI_noset {N : List Str} {sc : Scope} {it : ME.Itr} {e' tg : PySem.Expr} (h : mI N sc it e' tg = true) {env : PySem.Env} : ∀ x, foldedSetIterable e' env x = pure x := by
  intro x
  cases e' <;> first | rfl | skip
  cases it <;> first | (cases h; done) | (simp [mI, notSet] at h)
theorem asgns_len {N : List Str} {fl : Str → Bool} {sc : Scope} : ∀ (ts : Tgts) {es' : List PySem.Expr} {vs : List D} {d d1 : Env} {m m1 : Sto}, mTs N fl sc ts es' = true → asgns ts vs d m = .ok d1 m1 → vs.length = es'.length
  | .nil, es', vs, d, d1, m, m1, h, e => by
    rw [mTs_nil h]
    cases vs with
    | nil => rfl
    | cons _ _ => cases e
  | .cons t ts, es', vs, d, d1, m, m1, h, e => by
    obtain ⟨a, l, rfl, _, _, h3⟩ := mTs_cons h
    cases vs with
    | nil => cases e
    | cons v vs =>
      have e : ((asgn t v d m).bind fun d1 m1 => asgns ts vs d1 m1) = .ok d1 m1 := e
      cases q : asgn t v d m with
      | ok d2 m2 =>
        rw [q] at e
        rw [List.length_cons, List.length_cons, asgns_len ts h3 e]
      | exc c es m => rw [q] at e; cases e
      | stuck => rw [q] at e; cases e
theorem mTs_star {N : List Str} {fl : Str → Bool} {sc : Scope} : ∀ {ts : Tgts} {es' : List PySem.Expr}, mTs N fl sc ts es' = true → ∀ e ∈ es', notStar e = true
  | .nil, es', h => by rw [mTs_nil h]; exact fun e he => by cases he
  | .cons t ts, es', h => by
    obtain ⟨a, l, rfl, h1, _, h3⟩ := mTs_cons h
    intro x hx
    rcases List.mem_cons.mp hx with rfl | hx
    · exact h1
    · exact mTs_star h3 x hx
theorem pe_stuck {X : Cx} {W : WX} {e : PySem.Expr} : PE X e (tE X.K W fun _ _ => .stuck) := ⟨fun _ _ _ _ _ _ ⟨_, _, _, _, _, g⟩ => g.elim⟩
theorem pt_stuck {X : Cx} {W : WX} {e : PySem.Expr} : PT X e (tT X.K W fun _ _ => .stuck) := ⟨fun _ _ _ _ _ _ ⟨_, _, _, _, _, g⟩ => g.elim⟩
theorem pw_stuck {X : Cx} {W : WX} {e : PySem.Expr} : PW X e (tT X.K W fun _ _ => .stuck) := ⟨fun _ _ _ _ _ _ _ ⟨_, _, _, _, _, g⟩ => g.elim⟩
/-- plain expressions as tests -/
def Plain (e : PySem.Expr) : Prop := (∀ a p, e ≠ .UnaryOp .Not a p) ∧ (∀ o a p, e ≠ .BoolOp o a p) ∧ (∀ a b c p, e ≠ .IfExp a b c p) ∧ (∀ a b c p, e ≠ .Compare a b c p)
theorem both {X : Cx} {W : WX} {e : PySem.Expr} {f : Env → Sto → Res D} {t : Bool} (hp : Plain e) (h : PE X e (tE X.K W f)) : PE X e (tE X.K W f) ∧ (t = true → PT X e (tT X.K W fun d m => (f d m).bind evTru)) :=
  ⟨h, fun _ => r_tst h (isTrue_gen hp.1 hp.2.1 hp.2.2.1 hp.2.2.2)⟩
theorem evs_nil {es : Exs} {N : List Str} {sc : Scope} (h : mEs N sc es [] = true) : es = .nil := by
  cases es with
  | nil => rfl
  | cons _ _ => cases h
theorem plain_of {e : PySem.Expr} (h : plainB e = true) : Plain e := by
  refine ⟨?_, ?_, ?_, ?_⟩
  · rintro a p rfl; cases h
  · rintro o a p rfl; cases h
  · rintro a b c p rfl; cases h
  · rintro a b c p rfl; cases h
mutual
theorem sE (N : List Str) : ∀ (e : Ex) (X : Cx) (W : WX) (sc : Scope) (e' : PySem.Expr), SX X W N sc → OkE (gw X) e → mE N sc e e' = true →
    PE X e' (tE X.K W (ev e)) ∧ (tstOk e = true → PT X e' (tT X.K W fun d m => (ev e d m).bind evTru))
  | .var i, X, W, sc, e', S, ok, h => by
    obtain ⟨x, pos, rfl, h1, h2, h3, h4⟩ := mE_var h
    exact both ⟨nofun, nofun, nofun, nofun⟩ (r_var S h1 h2 h3 h4)
  | .int i, X, W, sc, e', S, ok, h => by
    obtain ⟨k, pos, rfl⟩ := mE_int h
    exact both ⟨nofun, nofun, nofun, nofun⟩ (pe_int.imp fun σ H Q h => tE_const (fun _ _ _ => .intI) h)
  | .str i, X, W, sc, e', S, ok, h => by
    obtain ⟨k, pos, rfl⟩ := mE_str h
    exact both ⟨nofun, nofun, nofun, nofun⟩ (pe_str.imp fun σ H Q h => tE_const (fun _ _ _ => .strI) h)
  | .bl i, X, W, sc, e', S, ok, h => by
    obtain ⟨k, pos, rfl⟩ := mE_bl h
    exact both ⟨nofun, nofun, nofun, nofun⟩ (pe_bl.imp fun σ H Q h => tE_const (fun _ _ _ => .blI) h)
  | .non, X, W, sc, e', S, ok, h => by
    obtain ⟨k, pos, rfl⟩ := mE_non h
    exact both ⟨nofun, nofun, nofun, nofun⟩ (pe_non.imp fun σ H Q h => tE_const (fun _ _ _ => .nonI) h)
  | .nev, X, W, sc, e', S, ok, h => ⟨pe_stuck, fun _ => pt_stuck⟩
  | .glo x d, X, W, sc, e', S, ok, h => by
    obtain ⟨pos, rfl, h1⟩ := mE_glo h
    exact both ⟨nofun, nofun, nofun, nofun⟩ (r_glo S h1 ok)
  | .bin op a b, X, W, sc, e', S, ok, h => by
    obtain ⟨a', b', pos, rfl, h1, h2⟩ := mE_bin h
    exact both ⟨nofun, nofun, nofun, nofun⟩ (r_bin (sE N a X W sc a' S ok.1 h1).1 (sE N b X W sc b' S ok.2 h2).1)
  | .neg a, X, W, sc, e', S, ok, h => by
    obtain ⟨a', pos, rfl, h1⟩ := mE_neg h
    exact both ⟨nofun, nofun, nofun, nofun⟩ (r_neg (sE N a X W sc a' S ok h1).1)
  | .nt a, X, W, sc, e', S, ok, h => by
    obtain ⟨a', pos, rfl, h1⟩ := mE_nt h
    have q := sE N a X W sc a' S ok h1
    exact ⟨r_nt q.1, fun t => r_ntT (q.2 t)⟩
  | .and es, X, W, sc, e', S, ok, h => by
    obtain ⟨vs, pos, rfl, h1⟩ := mE_and h
    have q := sAnd N es X W sc vs pos S ok h1
    exact ⟨q.1, fun t => (q.2 t).pt⟩
  | .or es, X, W, sc, e', S, ok, h => by
    obtain ⟨vs, pos, rfl, h1⟩ := mE_or h
    have q := sOr N es X W sc vs pos S ok h1
    exact ⟨q.1, fun t => (q.2 t).pt⟩
  | .cmp op a b, X, W, sc, e', S, ok, h => by
    obtain ⟨a', b', pos, rfl, h0, h1, h2⟩ := mE_cmp h
    have hu : X.A.units + 65 < cLine := by have := S.hu; omega
    have q1 := (sE N a X W sc a' S ok.1 h1).1
    have q2 := (sE N b X W sc b' S ok.2 h2).1
    exact ⟨r_cmp hu q1 q2 h0, fun _ => r_cmpT hu q1 q2 h0⟩
  | .chn o1 o2 a b c, X, W, sc, e', S, ok, h => by
    obtain ⟨a', b', c', pos, rfl, h0, h1, h2, h3⟩ := mE_chn h
    have hu : X.A.units + 65 < cLine := by have := S.hu; omega
    have q1 := (sE N a X W sc a' S ok.1 h1).1
    have q2 := (sE N b X W sc b' S ok.2.1 h2).1
    have q3 := (sE N c X W sc c' S ok.2.2 h3).1
    exact ⟨r_chn hu q1 q2 q3 h0, fun _ => r_chnT hu q1 q2 q3 h0⟩
  | .ite c a b, X, W, sc, e', S, ok, h => by
    obtain ⟨c', a', b', pos, rfl, h0, h1, h2, h3⟩ := mE_ite h
    exact ⟨r_ite ((sE N c X W sc c' S ok.1 h1).2 h0) (sE N a X W sc a' S ok.2.1 h2).1 (sE N b X W sc b' S ok.2.2 h3).1, fun t => by cases t⟩
  | .tup es, X, W, sc, e', S, ok, h => by
    obtain ⟨vs, k, pos, rfl, h1⟩ := mE_tup h
    exact both ⟨nofun, nofun, nofun, nofun⟩ (r_tup (sEs N es X W sc vs S ok h1))
  | .lst es, X, W, sc, e', S, ok, h => by
    obtain ⟨vs, pos, rfl, h1⟩ := mE_lst h
    exact both ⟨nofun, nofun, nofun, nofun⟩ (r_lst (sEs N es X W sc vs S ok h1))
  | .lstM es, X, W, sc, e', S, ok, h => by
    obtain ⟨vs, pos, rfl, h1⟩ := mE_lstM h
    exact both ⟨nofun, nofun, nofun, nofun⟩ (r_lstM (sEs N es X W sc vs S ok h1))
  | .idx a b, X, W, sc, e', S, ok, h => by
    obtain ⟨a', b', pos, rfl, h0, h1, h2⟩ := mE_idx h
    exact both ⟨nofun, nofun, nofun, nofun⟩ (r_idx (sE N a X W sc a' S ok.1 h1).1 (sE N b X W sc b' S ok.2 h2).1 h0)
  | .get a b, X, W, sc, e', S, ok, h => by
    obtain ⟨a', b', pos, rfl, h0, h1, h2⟩ := mE_get h
    exact both ⟨nofun, nofun, nofun, nofun⟩ (r_get (by have := S.hu; omega) (sE N a X W sc a' S ok.1 h1).1 (sE N b X W sc b' S ok.2 h2).1 h0)
  | .slc a lo hi, X, W, sc, e', S, ok, h => by
    obtain ⟨a', lo', hi', p2, pos, rfl, h1, h2, h3⟩ := mE_slc h
    exact both ⟨nofun, nofun, nofun, nofun⟩ (r_slc (sE N a X W sc a' S ok.1 h1).1 (sO N lo X W sc lo' S ok.2.1 h2) (sO N hi X W sc hi' S ok.2.2 h3))
  | .rev a, X, W, sc, e', S, ok, h => by
    obtain ⟨a', k, p1, p2, p3, pos, rfl, h1⟩ := mE_rev h
    exact both ⟨nofun, nofun, nofun, nofun⟩ (r_rev (sE N a X W sc a' S ok h1).1)
  | .bf b es, X, W, sc, e', S, ok, h => by
    obtain ⟨p, a1, ar, pos, rfl, h1, h2⟩ := mE_bf h
    exact both ⟨nofun, nofun, nofun, nofun⟩ (r_bf S ok.1 h1 (sEs N es X W sc _ S ok.2 h2) (mEs_star h2))
  | .tupR a, X, W, sc, e', S, ok, h => by
    obtain ⟨p, p2, a', pos2, pos, rfl, h1, h2, h3, h4⟩ := mE_tupR h
    exact both ⟨nofun, nofun, nofun, nofun⟩ (r_tupR S ok.1 ok.2.1 h1 h2 (sE N a X W sc a' S ok.2.2 h3).1 h4)
  | .isi a t cs, X, W, sc, e', S, ok, h => by
    obtain ⟨p, a', p2, pos, rfl, h1, h2, h3, h4⟩ := mE_isi h
    exact both ⟨nofun, nofun, nofun, nofun⟩ (r_isi S ok.1 h1 h2 (sE N a X W sc a' S ok.2 h3).1 h4)
  | .bm b o es, X, W, sc, e', S, ok, h => by
    obtain ⟨o', apos, args, pos, rfl, h1, h2, h3, h4, h5⟩ := mE_bm h
    have q := (sE N o X W sc o' S ok.1 h4).1
    cases args with
    | nil =>
      obtain rfl := evs_nil h5
      exact both ⟨nofun, nofun, nofun, nofun⟩ (r_bm0 S q h1 h2)
    | cons a as =>
      exact both ⟨nofun, nofun, nofun, nofun⟩ (r_bm S q h1 h2 h3 (by simp) (sEs N es X W sc _ S ok.2 h5) (mEs_star h5))
  | .callK x F ks perm es, X, W, sc, e', S, ok, h => by
    obtain ⟨p, kws, pos, rfl, h1, h2, h3⟩ := mE_callK h
    exact both ⟨nofun, nofun, nofun, nofun⟩ (r_callK S ok.1 h1 h2 (sK N es X W sc kws S ok.2 h3))
  | .call x F es, X, W, sc, e', S, ok, h => by
    obtain ⟨p, args, pos, rfl, h1, h2⟩ := mE_call h
    cases args with
    | nil =>
      obtain rfl := evs_nil h2
      exact both ⟨nofun, nofun, nofun, nofun⟩ (r_call0 S ok.1 h1)
    | cons a as => exact both ⟨nofun, nofun, nofun, nofun⟩ (r_call S ok.1 h1 (sEs N es X W sc _ S ok.2 h2) (mEs_star h2))
  | .mth c o m F es, X, W, sc, e', S, ok, h => by
    obtain ⟨o', apos, args, pos, rfl, h1, h2, h3, h4, h5⟩ := mE_mth h
    have q := (sE N o X W sc o' S ok.2.1 h4).1
    cases args with
    | nil =>
      obtain rfl := evs_nil h5
      exact both ⟨nofun, nofun, nofun, nofun⟩ (r_mth0 S ok.1 q h1 h2)
    | cons a as => exact both ⟨nofun, nofun, nofun, nofun⟩ (r_mth S ok.1 q h1 h2 h3 (sEs N es X W sc _ S ok.2.2 h5) (mEs_star h5))
  | .new c F es, X, W, sc, e', S, ok, h => by
    obtain ⟨p, args, pos, rfl, h1, h2⟩ := mE_new h
    cases args with
    | nil =>
      obtain rfl := evs_nil h2
      exact both ⟨nofun, nofun, nofun, nofun⟩ (r_new0 S ok.1 h1)
    | cons a as => exact both ⟨nofun, nofun, nofun, nofun⟩ (r_new S ok.1 h1 (sEs N es X W sc _ S ok.2 h2) (mEs_star h2))
  | .fld c o f, X, W, sc, e', S, ok, h => by
    obtain ⟨o', pos, rfl, h1, h2⟩ := mE_fld h
    exact both ⟨nofun, nofun, nofun, nofun⟩ (r_fld ok.1 (sE N o X W sc o' S ok.2 h2).1 h1)
  | .prp c o f F, X, W, sc, e', S, ok, h => by
    obtain ⟨o', pos, rfl, h1, h2⟩ := mE_prp h
    exact both ⟨nofun, nofun, nofun, nofun⟩ (r_prp S ok.1 (sE N o X W sc o' S ok.2 h2).1 h1)
  | .lc elt t it ifs own, X, W, sc, e', S, ok, h => by
    obtain ⟨elt', t', it', ifs', scope', pos, rfl, h1, h2, h3, h4, h5, h6, h7⟩ := mE_lc h
    have hb : BlkOk X.N X.env.scope scope' own := by rw [S.hN, S.hs]; exact blkOk_by h1
    refine both ⟨nofun, nofun, nofun, nofun⟩ ((pe_lc S.calm (by rw [S.hN]; exact S.nd) (sI N it X W sc it' t' S ok.2.2.1 h5) hb
      (fun s H C cl fp => sT N t _ W0 _ t' (ownCell scope') (fun x hx => hx) (S.blk s H scope' C cl fp) ok.2.1 h4)
      (fun s H C cl fp => sIfs N ifs _ W0 _ ifs' (S.blk s H scope' C cl fp) ok.2.2.2 h6 h7)
      (fun s H C cl fp => (sE N elt _ W0 _ elt' (S.blk s H scope' C cl fp) ok.1 h3).1) (mI_noset h5)).imp fun σ H Q h => lc_imp (fun i hi => ?_) h)
    unfold ownOk at h2
    exact of_decide_eq_true (List.all_eq_true.mp h2 i hi)
  | .lcM elt t it ifs own, X, W, sc, e', S, ok, h => by
    obtain ⟨elt', t', it', ifs', scope', pos, rfl, h1, h2, h3, h4, h5, h6, h7⟩ := mE_lcM h
    have hb : BlkOk X.N X.env.scope scope' own := by rw [S.hN, S.hs]; exact blkOk_by h1
    refine both ⟨nofun, nofun, nofun, nofun⟩ ((pe_lc S.calm (by rw [S.hN]; exact S.nd) (sI N it X W sc it' t' S ok.2.2.1 h5) hb
      (fun s H C cl fp => sT N t _ W0 _ t' (ownCell scope') (fun x hx => hx) (S.blk s H scope' C cl fp) ok.2.1 h4)
      (fun s H C cl fp => sIfs N ifs _ W0 _ ifs' (S.blk s H scope' C cl fp) ok.2.2.2 h6 h7)
      (fun s H C cl fp => (sE N elt _ W0 _ elt' (S.blk s H scope' C cl fp) ok.1 h3).1) (mI_noset h5)).imp fun σ H Q h => lcM_imp (fun i hi => ?_) h)
    unfold ownOk at h2
    exact of_decide_eq_true (List.all_eq_true.mp h2 i hi)
  | .dctM, X, W, sc, e', S, ok, h => by
    obtain ⟨pos, rfl⟩ := mE_dctM h
    exact both ⟨nofun, nofun, nofun, nofun⟩ r_dctM
  | .gen G es, X, W, sc, e', S, ok, h => by
    have h : (plainB e' && (match G.sub sc e' with
      | some l => mEl N sc es l
      | none => false)) = true := h
    rw [Bool.and_eq_true] at h
    obtain ⟨h0, h⟩ := h
    split at h
    · rename_i l el
      exact both (plain_of h0) (ok.1 X W N sc rfl S e' l el _ (sEl N es X W sc l S ok.2 h))
    · cases h
theorem sEl (N : List Str) : ∀ (es : Exs) (X : Cx) (W : WX) (sc : Scope) (es' : List PySem.Expr), SX X W N sc → OkEs (gw X) es → mEl N sc es es' = true → PEs X W es' (evl es)
  | .nil, X, W, sc, es', S, ok, h => by
    cases es' with
    | nil => trivial
    | cons _ _ => cases h
  | .cons e es, X, W, sc, es', S, ok, h => by
    cases es' with
    | nil => cases h
    | cons a l =>
      have h : (mE N sc e a && mEl N sc es l) = true := h
      rw [Bool.and_eq_true] at h
      exact ⟨(sE N e X W sc a S ok.1 h.1).1, sEl N es X W sc l S ok.2 h.2⟩
theorem sEs (N : List Str) : ∀ (es : Exs) (X : Cx) (W : WX) (sc : Scope) (es' : List PySem.Expr), SX X W N sc → OkEs (gw X) es → mEs N sc es es' = true → PA X es' (tA X.K W (evs es))
  | .nil, X, W, sc, es', S, ok, h => by
    rw [mEs_nil h]
    exact r_nil
  | .cons e es, X, W, sc, es', S, ok, h => by
    obtain ⟨a, l, rfl, h1, h2, h3⟩ := mEs_cons h
    exact r_cons (sE N e X W sc a S ok.1 h2).1 (sEs N es X W sc l S ok.2 h3) h1
theorem sK (N : List Str) : ∀ (es : Exs) (X : Cx) (W : WX) (sc : Scope) (kws : List Keyword), SX X W N sc → OkEs (gw X) es → mEs N sc es (kws.map (·.value)) = true → PK X kws (tA X.K W (evs es))
  | .nil, X, W, sc, kws, S, ok, h => by
    cases kws with
    | nil => exact k_nil
    | cons _ _ => cases h
  | .cons e es, X, W, sc, kws, S, ok, h => by
    cases kws with
    | nil => cases h
    | cons k kws =>
      obtain ⟨nm, v, kp⟩ := k
      obtain ⟨a, l, q, h1, h2, h3⟩ := mEs_cons h
      cases q
      exact k_cons (sE N e X W sc v S ok.1 h2).1 (sK N es X W sc kws S ok.2 h3)
theorem sO (N : List Str) : ∀ (es : Exs) (X : Cx) (W : WX) (sc : Scope) (o : Option PySem.Expr), SX X W N sc → OkEs (gw X) es → mO N sc es o = true → PO X o (poF X.K W (evs es))
  | .nil, X, W, sc, o, S, ok, h => by
    rcases mO_inv h with ⟨_, rfl⟩ | ⟨e, a, h1, _⟩
    · exact po_nil
    · cases h1
  | .cons e .nil, X, W, sc, o, S, ok, h => by
    rcases mO_inv h with ⟨h1, _⟩ | ⟨e, a, h1, rfl, h2⟩
    · cases h1
    · cases h1
      exact po_one (sE N e X W sc a S ok.1 h2).1
  | .cons e (.cons e2 es), X, W, sc, o, S, ok, h => by
    rcases mO_inv h with ⟨h1, _⟩ | ⟨e, a, h1, _⟩ <;> cases h1
theorem sAnd (N : List Str) : ∀ (es : Exs) (X : Cx) (W : WX) (sc : Scope) (es' : List PySem.Expr) (pos : Pos), SX X W N sc → OkEs (gw X) es → mEs N sc es es' = true →
    PE X (.BoolOp .And es' pos) (tE X.K W (evAnd es)) ∧ (tstOk.tstOks es = true → PW X (.BoolOp .And es' pos) (tT X.K W fun d m => (evAnd es d m).bind evTru))
  | .nil, X, W, sc, es', pos, S, ok, h => ⟨pe_stuck, fun _ => pw_stuck⟩
  | .cons e .nil, X, W, sc, es', pos, S, ok, h => by
    obtain ⟨a, l, rfl, h1, h2, h3⟩ := mEs_cons h
    obtain rfl := mEs_nil h3
    have q := sE N e X W sc a S ok.1 h2
    refine ⟨pe_one q.1, fun t => pw_and1 (q.2 ?_)⟩
    rw [tstOk.tstOks, Bool.and_eq_true] at t
    exact t.1
  | .cons e (.cons e2 es), X, W, sc, es', pos, S, ok, h => by
    obtain ⟨a, l, rfl, h1, h2, h3⟩ := mEs_cons h
    obtain ⟨b, l2, rfl, _⟩ := mEs_cons h3
    have q := sE N e X W sc a S ok.1 h2
    have q2 := sAnd N (.cons e2 es) X W sc (b :: l2) pos S ok.2 h3
    refine ⟨r_and2 q.1 q2.1, fun t => ?_⟩
    rw [tstOk.tstOks, Bool.and_eq_true] at t
    exact r_and2T (q.2 t.1) (q2.2 t.2)
theorem sOr (N : List Str) : ∀ (es : Exs) (X : Cx) (W : WX) (sc : Scope) (es' : List PySem.Expr) (pos : Pos), SX X W N sc → OkEs (gw X) es → mEs N sc es es' = true →
    PE X (.BoolOp .Or es' pos) (tE X.K W (evOr es)) ∧ (tstOk.tstOks es = true → PW X (.BoolOp .Or es' pos) (tT X.K W fun d m => (evOr es d m).bind evTru))
  | .nil, X, W, sc, es', pos, S, ok, h => ⟨pe_stuck, fun _ => pw_stuck⟩
  | .cons e .nil, X, W, sc, es', pos, S, ok, h => by
    obtain ⟨a, l, rfl, h1, h2, h3⟩ := mEs_cons h
    obtain rfl := mEs_nil h3
    have q := sE N e X W sc a S ok.1 h2
    refine ⟨pe_one q.1, fun t => pw_or1 (q.2 ?_)⟩
    rw [tstOk.tstOks, Bool.and_eq_true] at t
    exact t.1
  | .cons e (.cons e2 es), X, W, sc, es', pos, S, ok, h => by
    obtain ⟨a, l, rfl, h1, h2, h3⟩ := mEs_cons h
    obtain ⟨b, l2, rfl, _⟩ := mEs_cons h3
    have q := sE N e X W sc a S ok.1 h2
    have q2 := sOr N (.cons e2 es) X W sc (b :: l2) pos S ok.2 h3
    refine ⟨r_or2 q.1 q2.1, fun t => ?_⟩
    rw [tstOk.tstOks, Bool.and_eq_true] at t
    exact r_or2T (q.2 t.1) (q2.2 t.2)
theorem sIfs (N : List Str) : ∀ (es : Exs) (X : Cx) (W : WX) (sc : Scope) (es' : List PySem.Expr), SX X W N sc → OkEs (gw X) es → mEs N sc es es' = true → tstOk.tstOks es = true → PTs X es' (tT X.K W (evIfs es))
  | .nil, X, W, sc, es', S, ok, h, t => by
    rw [mEs_nil h]
    exact ⟨fun pins s σ H Q I ⟨Z, r, δ, m, rs, g⟩ => pts_nil.run pins s σ H Q I (g _ _ (.refl _ _) rs.sr)⟩
  | .cons e .nil, X, W, sc, es', S, ok, h, t => by
    obtain ⟨a, l, rfl, h1, h2, h3⟩ := mEs_cons h
    obtain rfl := mEs_nil h3
    rw [tstOk.tstOks, Bool.and_eq_true] at t
    exact pts_one ((sE N e X W sc a S ok.1 h2).2 t.1)
  | .cons e (.cons e2 es), X, W, sc, es', S, ok, h, t => ⟨fun _ _ _ _ _ _ ⟨_, _, _, _, _, g⟩ => g.elim⟩
theorem sT (N : List Str) : ∀ (t : Tgt) (X : Cx) (W : WX) (sc : Scope) (e' : PySem.Expr) (fl : Str → Bool), (∀ x, fl x = true → X.fn x = true) → SX X W N sc → OkT (gw X) t → mT N fl sc t e' = true → PG X e' (gT X.K (tix t) (asgn t))
  | .name i, X, W, sc, e', fl, hf, S, ok, h => by
    obtain ⟨x, pos, rfl, h1, h2⟩ := mT_name h
    exact g_name S h1 hf h2
  | .tup ts, X, W, sc, e', fl, hf, S, ok, h => by
    obtain ⟨vs, k, pos, rfl, h1⟩ := mT_tup h
    exact g_tup S (sTs N ts X W sc vs fl hf S ok h1) (mTs_star h1) fun ds δ m δ1 m1 e => asgns_len ts h1 e
  | .sub o i, X, W, sc, e', fl, hf, S, ok, h => by
    obtain ⟨o', i', pos, rfl, h0, h1, h2⟩ := mT_sub h
    exact g_sub (sE N o X W sc o' S ok.1 h1).1 (sE N i X W sc i' S ok.2 h2).1 h0
  | .put o i, X, W, sc, e', fl, hf, S, ok, h => by
    obtain ⟨o', i', pos, rfl, h0, h1, h2⟩ := mT_put h
    exact g_put (by have := S.hu; omega) (sE N o X W sc o' S ok.1 h1).1 (sE N i X W sc i' S ok.2 h2).1 h0
  | .att c o f, X, W, sc, e', fl, hf, S, ok, h => by
    obtain ⟨o', pos, rfl, h1⟩ := mT_att h
    exact g_att ok.1 (sE N o X W sc o' S ok.2 h1).1
theorem sTs (N : List Str) : ∀ (ts : Tgts) (X : Cx) (W : WX) (sc : Scope) (es' : List PySem.Expr) (fl : Str → Bool), (∀ x, fl x = true → X.fn x = true) → SX X W N sc → OkTs (gw X) ts → mTs N fl sc ts es' = true → PGs X es' (gTs X.K (tixs ts) (asgns ts))
  | .nil, X, W, sc, es', fl, hf, S, ok, h => by
    rw [mTs_nil h]
    exact gs_nil
  | .cons t ts, X, W, sc, es', fl, hf, S, ok, h => by
    obtain ⟨a, l, rfl, h1, h2, h3⟩ := mTs_cons h
    exact gs_cons (sT N t X W sc a fl hf S ok.1 h2) (sTs N ts X W sc l fl hf S ok.2 h3) h1
theorem sI (N : List Str) : ∀ (it : ME.Itr) (X : Cx) (W : WX) (sc : Scope) (e' tg : PySem.Expr), SX X W N sc → OkI (gw X) it → mI N sc it e' tg = true → PI X tg e' (iT X.K W (evIt it))
  | .lst e, X, W, sc, e', tg, S, ok, h => by
    have h : (notSet e' && mE N sc e e') = true := h
    rw [Bool.and_eq_true] at h
    exact i_any (sE N e X W sc e' S ok h.2).1
  | .rng1 e, X, W, sc, e', tg, S, ok, h => by
    obtain ⟨p, a', pos, rfl, h1, h2, h3⟩ := mI_rng1 h
    exact i_rng1 S ok.1 h1 h2 (sE N e X W sc a' S ok.2 h3).1
  | .rng2 a b, X, W, sc, e', tg, S, ok, h => by
    obtain ⟨p, a', b', pos, rfl, h1, h2, h3, h4, h5⟩ := mI_rng2 h
    exact i_rng2 S ok.1 h1 h2 h3 (sE N a X W sc a' S ok.2.1 h4).1 (sE N b X W sc b' S ok.2.2 h5).1
  | .enumL e, X, W, sc, e', tg, S, ok, h => by
    obtain ⟨p, a', pos, el, kk, tp, rfl, rfl, h1, h2, h3⟩ := mI_enumL h
    exact i_enumL S ok.1 h1 h2 (sE N e X W sc a' S ok.2 h3).1
  | .gen G es, X, W, sc, e', tg, S, ok, h => by
    have h : (notSet e' && (match G.sub sc e' tg with
      | some l => mEl N sc es l
      | none => false)) = true := h
    rw [Bool.and_eq_true] at h
    have h := h.2
    split at h
    · rename_i l el
      exact ok.1 X W N sc rfl S e' tg l el _ (sEl N es X W sc l S ok.2 h)
    · cases h
end
end ME
set_option Elab.async false
set_option linter.all false
set_option maxRecDepth 100000
set_option maxHeartbeats 4000000
namespace ME
open PySem PySem.Spec PyProof.Rows L2
/-! ### statements -/
def GS (K : PySem.W.Frag) (W : WX) (Z : PZ) (r : List Addr) (H : Hp) (x : SRes) (D : Ends) : Prop := match x with
  | .ok .nx δ m => ∀ σ H1 r1, Ext r H r1 H1 → RS K Z r1 H1 σ δ m → D.nx σ H1
  | .ok .bk δ m => ∀ σ H1 r1, Ext r H r1 H1 → RS K Z r1 H1 σ δ m → D.bk σ H1
  | .ok .ct δ m => ∀ σ H1 r1, Ext r H r1 H1 → RS K Z r1 H1 σ δ m → D.ct σ H1
  | .ok (.ret d) _ m => ∀ v H1 r1, Ext r H r1 H1 → SR K Z r1 H1 m → VR K Z r1 H1 d v → D.rt v H1
  | .exc c es δ m => ∀ C o σ H1 r1, Ext r H r1 H1 → RS K Z r1 H1 σ δ m → ExcAt K Z r1 H1 c es C o → W C o σ H1
  | .stuck => False
def tS (K : PySem.W.Frag) (W : WX) (f : Env → Sto → SRes) : TS := fun D σ H => ∃ Z r δ m, RS K Z r H σ δ m ∧ GS K W Z r H (f δ m) D
section
variable {K : PySem.W.Frag} {W : WX} {Z : PZ} {r r' : List Addr} {H H' : Hp} {σ : L2.St} {δ : Env} {m : Sto} {D0 D1 : Ends}
theorem GS.ext {x : SRes} (e : Ext r H r' H') (g : GS K W Z r H x D0) : GS K W Z r' H' x D0 := by
  cases x with
  | ok o δ m => cases o with
    | nx => exact fun σ H2 r2 e2 => g σ H2 r2 (e.trans e2)
    | bk => exact fun σ H2 r2 e2 => g σ H2 r2 (e.trans e2)
    | ct => exact fun σ H2 r2 e2 => g σ H2 r2 (e.trans e2)
    | ret d => exact fun σ H2 r2 e2 => g σ H2 r2 (e.trans e2)
  | exc c es δ m => exact fun C o σ H2 r2 e2 => g C o σ H2 r2 (e.trans e2)
  | stuck => exact g
theorem GS.then {x : Res D} {f : D → Sto → SRes} (rs : RS K Z r H σ δ m) (g : GS K W Z r H (x.then δ f) D0) :
    GE K Z r H x (fun v H1 => ∃ r1 d m1, Ext r H r1 H1 ∧ RS K Z r1 H1 σ δ m1 ∧ VR K Z r1 H1 d v ∧ x = .ok d m1 ∧ GS K W Z r1 H1 (f d m1) D0) (EW W σ) := by
  cases x with
  | ok d m1 => exact fun v H2 r2 e2 s h => ⟨r2, d, m1, e2, rs.ext e2 s, h, rfl, GS.ext e2 g⟩
  | exc c es m1 => exact fun C o H2 r2 e2 s h => g C o σ H2 r2 e2 (rs.ext e2 s) h
  | stuck => exact g
theorem GS.thenA {x : Res (List D)} {f : List D → Sto → SRes} (rs : RS K Z r H σ δ m) (g : GS K W Z r H (x.then δ f) D0) :
    GA K Z r H x (fun v H1 => ∃ r1 d m1, Ext r H r1 H1 ∧ RS K Z r1 H1 σ δ m1 ∧ VRs K Z r1 H1 d v ∧ x = .ok d m1 ∧ GS K W Z r1 H1 (f d m1) D0) (EW W σ) := by
  cases x with
  | ok d m1 => exact fun v H2 r2 e2 s h => ⟨r2, d, m1, e2, rs.ext e2 s, h, rfl, GS.ext e2 g⟩
  | exc c es m1 => exact fun C o H2 r2 e2 s h => g C o σ H2 r2 e2 (rs.ext e2 s) h
  | stuck => exact g
theorem GS.thenB {x : Res Bool} {f : Bool → Sto → SRes} (rs : RS K Z r H σ δ m) (g : GS K W Z r H (x.then δ f) D0) :
    GB K Z r H x (fun b H1 => ∃ r1 m1, Ext r H r1 H1 ∧ RS K Z r1 H1 σ δ m1 ∧ x = .ok b m1 ∧ GS K W Z r1 H1 (f b m1) D0) (EW W σ) := by
  cases x with
  | ok d m1 => exact fun H2 r2 e2 s => ⟨r2, m1, e2, rs.ext e2 s, rfl, GS.ext e2 g⟩
  | exc c es m1 => exact fun C o H2 r2 e2 s h => g C o σ H2 r2 e2 (rs.ext e2 s) h
  | stuck => exact g
theorem GS.thenI {x : Res Itm} {f : Itm → Sto → SRes} (rs : RS K Z r H σ δ m) (g : GS K W Z r H (x.then δ f) D0) :
    GI K Z r H x (fun J H1 => ∃ r1 it m1, Ext r H r1 H1 ∧ RS K Z r1 H1 σ δ m1 ∧ WK K Z r1 H1 it J ∧ x = .ok it m1 ∧ GS K W Z r1 H1 (f it m1) D0) (EW W σ) := by
  cases x with
  | ok d m1 => exact fun J H2 r2 e2 s h => ⟨r2, d, m1, e2, rs.ext e2 s, h, rfl, GS.ext e2 g⟩
  | exc c es m1 => exact fun C o H2 r2 e2 s h => g C o σ H2 r2 e2 (rs.ext e2 s) h
  | stuck => exact g
/-- a target's end -/
theorem GS.thenT {x : Res Env} {f : Env → Sto → SRes} (g : GS K W Z r H (x.then δ f) D0) (nx : ∀ c es m, x ≠ .exc c es m) : ∃ δ1 m1, x = .ok δ1 m1 ∧ GS K W Z r H (f δ1 m1) D0 := by
  cases x with
  | ok d m1 => exact ⟨d, m1, rfl, g⟩
  | exc c es m1 => exact absurd rfl (nx _ _ _)
  | stuck => exact g.elim
end
/-- a target that raises is not followed -/
def Res.noxS {α : Type} (r : Res α) : Res α := r.nox
structure SY (X : Cx) (W : WX) (N : List Str) (sc : Scope) : Prop extends SX X W N sc where
  kd : sc.kind = .function
  hp : PassesOwn (model X.prog X.w) X.A X.env X.xe
  fn : ∀ x, X.fn x = true
section
variable {X : Cx} {W : WX} {N : List Str} {sc : Scope} {a b c e o tg : PySem.Expr} {es : List PySem.Expr} {body orelse rest : List Stmt} {st : Stmt} {fa fb fc : Env → Sto → Res D} {fs : Env → Sto → Res (List D)} {pos : Pos} {ix : List Nat} {ft : D → Env → Sto → Res Env} {ga gb : Env → Sto → SRes}
theorem fm_len {α β : Type} {f : α → Option β} : ∀ {l : List α}, (l.filterMap f).length = l.length → ∀ x ∈ l, (f x).isSome = true
  | [], _, x, hx => by cases hx
  | a :: l, h, x, hx => by
    have hle := List.length_filterMap_le f l
    cases q : f a with
    | none =>
      rw [List.filterMap_cons_none q, List.length_cons] at h
      omega
    | some b =>
      rw [List.filterMap_cons_some q, List.length_cons, List.length_cons] at h
      rcases List.mem_cons.mp hx with rfl | hx
      · rw [q]; rfl
      · exact fm_len (by omega) x hx
theorem sw_none {env : PySem.Env} (h : noSwap env.scope tg e = true) : swappedStores [tg] e env = pure none := by
  cases tg <;> first | rfl | skip
  · cases e <;> first | rfl | (cases h; done)
  · rename_i ts k p
    cases e <;> first | rfl | skip
    rename_i vs k2 p2
    unfold noSwap at h
    rw [Bool.and_eq_true, Bool.or_eq_true, Bool.or_eq_true] at h
    obtain ⟨_, h⟩ := h
    unfold swappedStores
    dsimp only
    split
    · rfl
    · rename_i h1
      split
      · rfl
      · rename_i h2
        split
        · rfl
        · rename_i h3
          rcases h with (h | h) | h
          · exfalso
            rw [Bool.and_eq_true] at h
            have a1 := of_decide_eq_true h.1
            have a2 := of_decide_eq_true h.2
            apply h1
            simp [a1, a2]
          · exfalso
            apply h3
            have hall : ts.all (swName env.scope ((ts.head?.map (·.pos.line)).getD 0)) = false := by simpa using h
            rw [Bool.or_eq_true]
            left
            rw [bne_iff_ne]
            intro hl
            have hle := fm_len hl
            rw [List.all_eq_false] at hall
            obtain ⟨x, hx, hn⟩ := hall
            have := hle x hx
            have key : ∀ {y : Str} {p : Pos} {n : Nat}, (if (env.kindOf y == some .local && p.line == n) = true then some y else none : Option Str).isSome = true → swName env.scope n (.Name y p) = true := by
              intro y p n h
              by_cases q : (env.kindOf y == some .local && p.line == n) = true
              · exact q
              · rw [if_neg q] at h; cases h
            cases x <;> first
              | (exact hn (key this))
              | (exact absurd this (by decide))
              | (exact absurd this Bool.false_ne_true)
          · rw [Bool.and_eq_true] at h
            rw [if_pos h.2]
theorem swsole {env : PySem.Env} {l : Nat} (h : swOff env.scope tg e = true) : swapsWithSole [tg] e l env = pure false := by
  have key : ∀ {y : Str} {p : Pos} {scope : Scope} {q : Pos}, env.scope.names.lookup y ≠ some .local → (pure (env.blockKind == .function && env.kindOf y == some .local && p.line == q.line && !(scope.names.any fun (n, k) => n == y && (k == .local || k == .cell))) : Sem Bool) = pure false := by
    intro y p scope q hy
    have : (env.kindOf y == some .local) = false := by
      rw [beq_eq_false_iff_ne]; exact hy
    rw [this, Bool.and_false]; rfl
  cases e <;> first | rfl | skip
  all_goals (cases tg <;> first | rfl | skip)
  all_goals (
    rename_i y p
    have hy : env.scope.names.lookup y ≠ some .local := by
      intro z
      simp [swOff, notComp, z] at h
    exact key hy)
/-- a target's store behind an expression -/
theorem s_asg (S : SX X W N sc) (he : PE X e (tE X.K W fa)) (hg : PG X tg (gT X.K ix ft)) (h1 : notStar tg = true) (h2 : noSwap sc tg e = true) (h3 : swOff sc tg e = true) :
    PS X (.Assign [tg] e pos) (tS X.K W fun d m => (fa d m).then d fun v m1 => (ft v d m1).nox.then d fun d1 m2 => .ok .nx d1 m2) :=
  (ps_asg he hg (swsole (by rw [S.hs]; exact h3)) (sw_none (by rw [S.hs]; exact h2)) (by rw [assign1 h1]; rfl)).imp fun D0 σ H ⟨Z, r, δ, m, rs, g⟩ => by
    refine ⟨Z, r, δ, m, rs, (GS.then rs g).mono fun v H1 ⟨r1, d, m1, e1, rs1, hv, _, g1⟩ => ?_⟩
    obtain ⟨δ1, m2, q, g2⟩ := g1.thenT (fun c es m q => by unfold Res.nox at q; split at q <;> simp_all)
    have q' : ft d δ m1 = .ok δ1 m2 := by unfold Res.nox at q; split at q <;> simp_all
    exact ⟨Z, r1, δ, m1, d, rs1, hv, δ1, m2, q', fun σ1 H2 r2 e2 rs2 _ => g2 σ1 H2 r2 e2 rs2⟩
theorem s_par2 (S : SY X W N sc) {i j : Nat} {x y : Str} {px py pt pt2 : Pos} {kt k2 : Nat} (hij : i ≠ j) (hi : N[i]? = some x) (hj : N[j]? = some y) (h : par2B sc x y px py a b = true) (ha : PE X a (tE X.K W fa)) (hb : PE X b (tE X.K W fb)) :
    PS X (.Assign [.Tuple [.Name x px, .Name y py] kt pt] (.Tuple [a, b] k2 pt2) pos) (tS X.K W fun d m => (fa d m).then d fun v m1 => (fb d m1).then d fun w m2 => .ok .nx ((d.set i (some v)).set j (some w)) m2) := by
  unfold par2B at h
  simp only [Bool.and_eq_true, Bool.not_eq_true'] at h
  obtain ⟨⟨⟨⟨⟨⟨⟨h1, h2⟩, h3⟩, h4⟩, h5⟩, h6⟩, h7⟩, h8⟩ := h
  have k1 : X.env.scope.names.lookup x = some .local := by rw [S.hs]; exact loc_of h1
  have k2' : X.env.scope.names.lookup y = some .local := by rw [S.hs]; exact loc_of h2
  have hw : swappedStores [.Tuple [.Name x px, .Name y py] kt pt] (.Tuple [a, b] k2 pt2) X.env = pure (some [x, y]) := by
    have b1 : X.env.kindOf x = some .local := k1
    have b2 : X.env.kindOf y = some .local := k2'
    have b3 : X.env.blockKind = .function := by unfold PySem.Env.blockKind; rw [S.hs, S.kd]; rfl
    have b4 : (px.line == px.line) = true := beq_self_eq_true _
    have one : ∀ {q : PySem.Expr}, notStar q = true → (match q with | PySem.Expr.Starred .. => true | _ => false) = false := by
      intro q hq
      cases q <;> first | (cases hq; done) | rfl
    have b5 : ([a, b].any fun | PySem.Expr.Starred .. => true | _ => false) = false := by
      rw [List.any_cons, List.any_cons, List.any_nil, one h5, one h6]; rfl
    unfold swappedStores
    dsimp only
    refine (if_neg ?_).trans ((if_neg ?_).trans ?_)
    · simp [b3]
    · exact fun h => absurd (h.symm.trans b5) (by decide)
    generalize hn : List.filterMap _ [PySem.Expr.Name x px, PySem.Expr.Name y py] = ns
    have b6 : ns = [x, y] := by
      rw [← hn]
      simp only [List.filterMap_cons, List.filterMap_nil, List.head?_cons, Option.map_some, Option.getD_some, PySem.Expr.pos, b1, b2, h3, beq_self_eq_true, Bool.and_self, if_true]
    have b7 : [x, y].eraseDups = [x, y] := by
      have h4' : (y == x) = false := by rw [beq_eq_false_iff_ne] at h4 ⊢; exact fun z => h4 z.symm
      simp [List.eraseDups_cons, List.filter, h4']
    rw [b6, b7, h7, h8]
    rfl
  exact (ps_par S.calm (by rw [S.hN]; exact S.nd) (by rw [S.hN]; exact hi) (by rw [S.hN]; exact hj) hij k1 k2' (pa_cons ha (pa_cons hb pa_nil (star1 h6)) (star1 h5)) hw).imp fun D0 σ H ⟨Z, r, δ, m, rs, g⟩ => by
    refine ⟨Z, r, δ, m, rs, (GS.then rs g).mono fun v H1 ⟨r1, d, m1, e1, rs1, hv, _, g1⟩ => ?_⟩
    refine ⟨Z, r1, δ, m1, rs1, (GS.then rs1 g1).mono fun w H2 ⟨r2, d2, m2, e2, rs2, hw, _, g2⟩ => ?_⟩
    exact ⟨v, w, rfl, g2 _ H2 r2 (.refl _ _) ((rs2.set (hv.ext e2)).set hw)⟩
theorem s_par3 (S : SY X W N sc) {i j l : Nat} {x y z : Str} {px py pz pt pt2 : Pos} {kt k2 : Nat} (hij : i ≠ j) (hil : i ≠ l) (hjl : j ≠ l) (hi : N[i]? = some x) (hj : N[j]? = some y) (hl : N[l]? = some z) (h : par3B sc x y z px py pz a b c = true)
    (ha : PE X a (tE X.K W fa)) (hb : PE X b (tE X.K W fb)) (hc : PE X c (tE X.K W fc)) :
    PS X (.Assign [.Tuple [.Name x px, .Name y py, .Name z pz] kt pt] (.Tuple [a, b, c] k2 pt2) pos) (tS X.K W fun d m => (fa d m).then d fun u m1 => (fb d m1).then d fun v m2 => (fc d m2).then d fun w m3 => .ok .nx (((d.set i (some u)).set j (some v)).set l (some w)) m3) := by
  unfold par3B at h
  simp only [Bool.and_eq_true, Bool.not_eq_true'] at h
  obtain ⟨⟨⟨⟨⟨⟨⟨⟨⟨⟨⟨⟨h1, h2⟩, h2b⟩, h3⟩, h3b⟩, h4⟩, h4b⟩, h4c⟩, h5⟩, h6⟩, h6b⟩, h7⟩, h8⟩ := h
  have k1 : X.env.scope.names.lookup x = some .local := by rw [S.hs]; exact loc_of h1
  have k2' : X.env.scope.names.lookup y = some .local := by rw [S.hs]; exact loc_of h2
  have k3' : X.env.scope.names.lookup z = some .local := by rw [S.hs]; exact loc_of h2b
  have hw : swappedStores [.Tuple [.Name x px, .Name y py, .Name z pz] kt pt] (.Tuple [a, b, c] k2 pt2) X.env = pure (some [x, y, z]) := by
    have b1 : X.env.kindOf x = some .local := k1
    have b2 : X.env.kindOf y = some .local := k2'
    have b2b : X.env.kindOf z = some .local := k3'
    have b3 : X.env.blockKind = .function := by unfold PySem.Env.blockKind; rw [S.hs, S.kd]; rfl
    have one : ∀ {q : PySem.Expr}, notStar q = true → (match q with | PySem.Expr.Starred .. => true | _ => false) = false := by
      intro q hq
      cases q <;> first | (cases hq; done) | rfl
    have b5 : ([a, b, c].any fun | PySem.Expr.Starred .. => true | _ => false) = false := by
      rw [List.any_cons, List.any_cons, List.any_cons, List.any_nil, one h5, one h6, one h6b]; rfl
    unfold swappedStores
    dsimp only
    refine (if_neg ?_).trans ((if_neg ?_).trans ?_)
    · simp [b3]
    · exact fun h => absurd (h.symm.trans b5) (by decide)
    generalize hn : List.filterMap _ [PySem.Expr.Name x px, PySem.Expr.Name y py, PySem.Expr.Name z pz] = ns
    have b6 : ns = [x, y, z] := by
      rw [← hn]
      simp only [List.filterMap_cons, List.filterMap_nil, List.head?_cons, Option.map_some, Option.getD_some, PySem.Expr.pos, b1, b2, b2b, h3, h3b, beq_self_eq_true, Bool.and_self, if_true]
    have b7 : [x, y, z].eraseDups = [x, y, z] := by
      have h4' : (y == x) = false := by rw [beq_eq_false_iff_ne] at h4 ⊢; exact fun z => h4 z.symm
      have h4b' : (z == x) = false := by rw [beq_eq_false_iff_ne] at h4b ⊢; exact fun z => h4b z.symm
      have h4c' : (z == y) = false := by rw [beq_eq_false_iff_ne] at h4c ⊢; exact fun z => h4c z.symm
      simp [List.eraseDups_cons, List.filter, h4', h4b', h4c']
    rw [b6, b7, h7, h8]
    rfl
  exact (ps_par3 S.calm (by rw [S.hN]; exact S.nd) (by rw [S.hN]; exact hi) (by rw [S.hN]; exact hj) (by rw [S.hN]; exact hl) hij hil hjl k1 k2' k3' (pa_cons ha (pa_cons hb (pa_cons hc pa_nil (star1 h6b)) (star1 h6)) (star1 h5)) hw).imp fun D0 σ H ⟨Z, r, δ, m, rs, g⟩ => by
    refine ⟨Z, r, δ, m, rs, (GS.then rs g).mono fun v H1 ⟨r1, d, m1, e1, rs1, hv, _, g1⟩ => ?_⟩
    refine ⟨Z, r1, δ, m1, rs1, (GS.then rs1 g1).mono fun w H2 ⟨r2, d2, m2, e2, rs2, hw, _, g2⟩ => ?_⟩
    refine ⟨Z, r2, δ, m2, rs2, (GS.then rs2 g2).mono fun u H3 ⟨r3, d3, m3, e3, rs3, hu, _, g3⟩ => ?_⟩
    exact ⟨v, w, u, rfl, g3 _ H3 r3 (.refl _ _) (((rs3.set ((hv.ext e2).ext e3)).set (hw.ext e3)).set hu)⟩
end
end ME
set_option Elab.async false
set_option linter.all false
set_option maxRecDepth 100000
set_option maxHeartbeats 4000000
namespace ME
open PySem PySem.Spec PyProof.Rows L2
/-! ### what a statement's match tells -/
section
variable {N : List Str} {sc : Scope} {s' : PySem.Stmt}
theorem mS_asg {t : Tgt} {e : Ex} (h : mS N sc (.asg t e) s' = true) : ∃ t' e' pos, s' = .Assign [t'] e' pos ∧ mT N (fun _ => true) sc t t' = true ∧ mE N sc e e' = true ∧ notStar t' = true ∧ noSwap sc t' e' = true ∧ (swOff sc t' e' || swB sc t' e') = true := by
  cases s' <;> first | (cases h; done) | skip
  rename_i ts e' pos
  cases ts <;> first | (cases h; done) | skip
  rename_i t' ts
  cases ts <;> first | (cases h; done) | skip
  rw [mS] at h
  simp only [Bool.and_eq_true] at h
  obtain ⟨⟨⟨⟨h1, h2⟩, h3⟩, h4⟩, h5⟩ := h
  exact ⟨_, _, _, rfl, h1, h2, h3, h4, h5⟩
theorem mS_par2 {i j : Nat} {a b : Ex} (h : mS N sc (.par2 i j a b) s' = true) : ∃ x px y py kt pt a' b' k2 pt2 pos, s' = .Assign [.Tuple [.Name x px, .Name y py] kt pt] (.Tuple [a', b'] k2 pt2) pos ∧ i ≠ j ∧ N[i]? = some x ∧ N[j]? = some y ∧ par2B sc x y px py a' b' = true ∧ mE N sc a a' = true ∧ mE N sc b b' = true := by
  cases s' <;> first | (cases h; done) | skip
  rename_i ts e' pos
  cases ts <;> first | (cases h; done) | skip
  rename_i t' ts
  cases t' <;> first | (cases h; done) | skip
  rename_i ns kt pt
  cases ns <;> first | (cases h; done) | skip
  rename_i n1 ns
  cases n1 <;> first | (cases h; done) | skip
  rename_i x px
  cases ns <;> first | (cases h; done) | skip
  rename_i n2 ns
  cases n2 <;> first | (cases h; done) | skip
  rename_i y py
  cases ns <;> first | (cases h; done) | skip
  cases ts <;> first | (cases h; done) | skip
  cases e' <;> first | (cases h; done) | skip
  rename_i vs k2 pt2
  cases vs <;> first | (cases h; done) | skip
  rename_i a' vs
  cases vs <;> first | (cases h; done) | skip
  rename_i b' vs
  cases vs <;> first | (cases h; done) | skip
  rw [mS] at h
  simp only [Bool.and_eq_true] at h
  obtain ⟨⟨⟨⟨⟨h0, h1⟩, h2⟩, h3⟩, h4⟩, h5⟩ := h
  exact ⟨_, _, _, _, _, _, _, _, _, _, _, rfl, of_decide_eq_true h0, of_decide_eq_true h1, of_decide_eq_true h2, h3, h4, h5⟩
theorem mS_par3 {i j k : Nat} {a b c : Ex} (h : mS N sc (.par3 i j k a b c) s' = true) : ∃ x px y py z pz kt pt a' b' c' k2 pt2 pos, s' = .Assign [.Tuple [.Name x px, .Name y py, .Name z pz] kt pt] (.Tuple [a', b', c'] k2 pt2) pos ∧ i ≠ j ∧ i ≠ k ∧ j ≠ k ∧ N[i]? = some x ∧ N[j]? = some y ∧ N[k]? = some z ∧ par3B sc x y z px py pz a' b' c' = true ∧ mE N sc a a' = true ∧ mE N sc b b' = true ∧ mE N sc c c' = true := by
  cases s' <;> first | (cases h; done) | skip
  rename_i ts e' pos
  cases ts <;> first | (cases h; done) | skip
  rename_i t' ts
  cases t' <;> first | (cases h; done) | skip
  rename_i ns kt pt
  cases ns <;> first | (cases h; done) | skip
  rename_i n1 ns
  cases n1 <;> first | (cases h; done) | skip
  rename_i x px
  cases ns <;> first | (cases h; done) | skip
  rename_i n2 ns
  cases n2 <;> first | (cases h; done) | skip
  rename_i y py
  cases ns <;> first | (cases h; done) | skip
  rename_i n3 ns
  cases n3 <;> first | (cases h; done) | skip
  rename_i z pz
  cases ns <;> first | (cases h; done) | skip
  cases ts <;> first | (cases h; done) | skip
  cases e' <;> first | (cases h; done) | skip
  rename_i vs k2 pt2
  cases vs <;> first | (cases h; done) | skip
  rename_i a' vs
  cases vs <;> first | (cases h; done) | skip
  rename_i b' vs
  cases vs <;> first | (cases h; done) | skip
  rename_i c' vs
  cases vs <;> first | (cases h; done) | skip
  rw [mS] at h
  simp only [Bool.and_eq_true] at h
  obtain ⟨⟨⟨⟨⟨⟨⟨⟨⟨h0, h0b⟩, h0c⟩, h1⟩, h2⟩, h2b⟩, h3⟩, h4⟩, h5⟩, h6⟩ := h
  exact ⟨_, _, _, _, _, _, _, _, _, _, _, _, _, _, rfl, of_decide_eq_true h0, of_decide_eq_true h0b, of_decide_eq_true h0c, of_decide_eq_true h1, of_decide_eq_true h2, of_decide_eq_true h2b, h3, h4, h5, h6⟩
theorem mS_aug {i : Nat} {op : Operator} {e : Ex} (h : mS N sc (.aug i op e) s' = true) : ∃ x px e' pos, s' = .AugAssign (.Name x px) op e' pos ∧ N[i]? = some x ∧ locB sc x = true ∧ mE N sc e e' = true := by
  cases s' <;> first | (cases h; done) | skip
  rename_i t' op' e' pos
  cases t' <;> first | (cases h; done) | skip
  rename_i x px
  rw [mS] at h
  simp only [Bool.and_eq_true] at h
  obtain ⟨⟨⟨h1, h2⟩, h3⟩, h4⟩ := h
  obtain rfl := of_decide_eq_true h3
  exact ⟨_, _, _, _, rfl, of_decide_eq_true h1, h2, h4⟩
theorem mS_ret {e : Ex} (h : mS N sc (.ret e) s' = true) : ∃ e' pos, s' = .Return (some e') pos ∧ mE N sc e e' = true := by
  cases s' <;> first | (cases h; done) | skip
  rename_i o pos
  cases o <;> first | (cases h; done) | skip
  rw [mS] at h
  exact ⟨_, _, rfl, h⟩
theorem mS_retN  (h : mS N sc Sm.retN s' = true) : ∃ pos, s' = .Return none pos := by
  cases s' <;> first | (cases h; done) | skip
  rename_i o pos
  cases o <;> first | (cases h; done) | skip
  exact ⟨_, rfl⟩
theorem mS_ite {c : Ex} {a b : List Sm} (h : mS N sc (.ite c a b) s' = true) : ∃ c' a' b' pos, s' = .If c' a' b' pos ∧ tstOk c = true ∧ mE N sc c c' = true ∧ mSs N sc a a' = true ∧ mSs N sc b b' = true := by
  cases s' <;> first | (cases h; done) | skip
  rename_i c' a' b' pos
  rw [mS] at h
  simp only [Bool.and_eq_true] at h
  obtain ⟨⟨⟨h0, h1⟩, h2⟩, h3⟩ := h
  exact ⟨_, _, _, _, rfl, h0, h1, h2, h3⟩
theorem mS_loop {t : Tgt} {it : ME.Itr} {body : List Sm} (h : mS N sc (.loop t it body) s' = true) : ∃ t' it' body' pos, s' = .For t' it' body' [] pos ∧ mT N (fun _ => true) sc t t' = true ∧ mI N sc it it' t' = true ∧ mSs N sc body body' = true := by
  cases s' <;> first | (cases h; done) | skip
  rename_i t' it' body' orelse pos
  cases orelse <;> first | (cases h; done) | skip
  rw [mS] at h
  simp only [Bool.and_eq_true] at h
  obtain ⟨⟨h1, h2⟩, h3⟩ := h
  exact ⟨_, _, _, _, rfl, h1, h2, h3⟩
theorem mS_whl {c : Ex} {body : List Sm} (h : mS N sc (.whl c body) s' = true) : ∃ c' body' pos, s' = .While c' body' [] pos ∧ tstOk c = true ∧ mE N sc c c' = true ∧ mSs N sc body body' = true := by
  cases s' <;> first | (cases h; done) | skip
  rename_i c' body' orelse pos
  cases orelse <;> first | (cases h; done) | skip
  rw [mS] at h
  simp only [Bool.and_eq_true] at h
  obtain ⟨⟨h0, h1⟩, h2⟩ := h
  exact ⟨_, _, _, rfl, h0, h1, h2⟩
theorem mS_exp {e : Ex} (h : mS N sc (.exp e) s' = true) : ∃ e' pos, s' = .Expr e' pos ∧ mE N sc e e' = true ∧ notComp e' = true := by
  cases s' <;> first | (cases h; done) | skip
  rename_i e' pos
  rw [mS] at h
  simp only [Bool.and_eq_true] at h
  exact ⟨_, _, rfl, h.1, h.2⟩
theorem mS_pass  (h : mS N sc Sm.pass s' = true) : ∃ pos, s' = .Pass pos := by
  cases s' <;> first | (cases h; done) | skip
  rename_i pos
  exact ⟨_, rfl⟩
theorem mS_brk  (h : mS N sc Sm.brk s' = true) : ∃ pos, s' = .Break pos := by
  cases s' <;> first | (cases h; done) | skip
  rename_i pos
  exact ⟨_, rfl⟩
theorem mS_cnt  (h : mS N sc Sm.cnt s' = true) : ∃ pos, s' = .Continue pos := by
  cases s' <;> first | (cases h; done) | skip
  rename_i pos
  exact ⟨_, rfl⟩
theorem mS_loopE {c : Str} {i : Nat} {f : Str} (h : mS N sc (.loopE c i f) s' = true) : ∃ t' x px p2 apos cpos body pos, s' = .For t' (.Call (.Attribute (.Attribute (.Name x px) f p2) "values" apos) [] [] cpos) body [] pos ∧ N[i]? = some x ∧ visB sc x = true ∧ (x == ("__debug__" : Str)) = false ∧ (x == ("__classdict__" : Str)) = false ∧ (apos.endLine == cpos.line) = true := by
  cases s' <;> first | (cases h; done) | skip
  rename_i t' it body orelse pos
  cases it <;> first | (cases h; done) | skip
  rename_i fc args kws cpos
  cases fc <;> first | (cases h; done) | skip
  rename_i o v apos
  cases o <;> first | (cases h; done) | skip
  rename_i o2 f' p2
  cases o2 <;> first | (cases h; done) | skip
  rename_i x px
  cases args <;> first | (cases h; done) | skip
  cases kws <;> first | (cases h; done) | skip
  cases orelse <;> first | (cases h; done) | skip
  rw [mS] at h
  simp only [Bool.and_eq_true, Bool.not_eq_true'] at h
  obtain ⟨⟨⟨⟨⟨⟨h1, h2⟩, h3⟩, h4⟩, h5⟩, h6⟩, h7⟩ := h
  obtain rfl := of_decide_eq_true h5
  obtain rfl := of_decide_eq_true h6
  exact ⟨_, _, _, _, _, _, _, _, rfl, of_decide_eq_true h1, h2, h3, h4, h7⟩
theorem mS_loopD {c : Str} {i : Nat} {f : Str} {kd : Bool} {t : Tgt} {body : List Sm} (h : mS N sc (.loopD c i f kd t body) s' = true) : ∃ t' x px p2 apos cpos body' pos, s' = .For t' (.Call (.Attribute (.Attribute (.Name x px) f p2) (if kd = true then "items" else "values" : Str) apos) [] [] cpos) body' [] pos ∧ N[i]? = some x ∧ visB sc x = true ∧ (x == ("__debug__" : Str)) = false ∧ (x == ("__classdict__" : Str)) = false ∧ (apos.endLine == cpos.line) = true ∧ (!kd || isTupT t') = true ∧ mT N (fun _ => true) sc t t' = true ∧ mSs N sc body body' = true := by
  cases s' <;> first | (cases h; done) | skip
  rename_i t' it body' orelse pos
  cases it <;> first | (cases h; done) | skip
  rename_i fc args kws cpos
  cases fc <;> first | (cases h; done) | skip
  rename_i o v apos
  cases o <;> first | (cases h; done) | skip
  rename_i o2 f' p2
  cases o2 <;> first | (cases h; done) | skip
  rename_i x px
  cases args <;> first | (cases h; done) | skip
  cases kws <;> first | (cases h; done) | skip
  cases orelse <;> first | (cases h; done) | skip
  rw [mS] at h
  simp only [Bool.and_eq_true, Bool.not_eq_true'] at h
  obtain ⟨⟨⟨⟨⟨⟨⟨⟨⟨h1, h2⟩, h3⟩, h4⟩, h5⟩, h6⟩, h7⟩, h8⟩, h9⟩, h10⟩ := h
  obtain rfl := of_decide_eq_true h5
  obtain rfl := of_decide_eq_true h6
  exact ⟨_, _, _, _, _, _, _, _, rfl, of_decide_eq_true h1, h2, h3, h4, h7, h8, h9, h10⟩
theorem mS_doc  (h : mS N sc Sm.doc s' = true) : ∃ x k p pos, s' = .Expr (.Constant (.str x) k p) pos := by
  cases s' <;> first | (cases h; done) | skip
  rename_i e' pos
  cases e' <;> first | (cases h; done) | skip
  rename_i v k p
  cases v <;> first | (cases h; done) | skip
  exact ⟨_, _, _, _, rfl⟩
end
mutual
def OkS (g : Gw) : Sm → Prop
  | .asg t e => OkT g t ∧ OkE g e
  | .par2 _ _ a b => OkE g a ∧ OkE g b
  | .par3 _ _ _ a b c => OkE g a ∧ OkE g b ∧ OkE g c
  | .aug _ _ e => OkE g e
  | .ret e => OkE g e
  | .ite c a b => OkE g c ∧ OkSs g a ∧ OkSs g b
  | .loop t it body => OkT g t ∧ OkI g it ∧ OkSs g body
  | .whl c body => OkE g c ∧ OkSs g body
  | .exp e => OkE g e
  | .rse _ _ => False
  | .loopE c _ f => FldOk g c f
  | .loopD c _ f _ t body => FldOk g c f ∧ OkT g t ∧ OkSs g body
  | _ => True
def OkSs (g : Gw) : List Sm → Prop
  | [] => True
  | s :: ss => OkS g s ∧ OkSs g ss
end
section
variable {K : PySem.W.Frag} {W : WX} {Z : PZ} {r r' : List Addr} {H H' : Hp} {σ : L2.St} {δ : Env} {m : Sto} {D0 D1 : Ends}
theorem GI.mono {x : Res Itm} {R R' : It → Hp → Prop} {E : XK} (g : GI K Z r H x R E) (h : ∀ J H', R J H' → R' J H') : GI K Z r H x R' E := by
  cases x with
  | ok d m => exact fun v H2 r2 e2 s q => h _ _ (g v H2 r2 e2 s q)
  | exc c es m => exact g
  | stuck => exact g
theorem GS.thn {x : SRes} {f : Env → Sto → SRes} (g : GS K W Z r H (x.thn f) D0) : GS K W Z r H x { D0 with nx := tS K W f D0 } := by
  cases x with
  | ok o δ m => cases o with
    | nx => exact fun σ H1 r1 e rs => ⟨Z, r1, δ, m, rs, GS.ext e g⟩
    | bk => exact g
    | ct => exact g
    | ret d => exact g
  | exc c es δ m => exact g
  | stuck => exact g
theorem while_imp {fc : Env → Sto → Res Bool} {fb : Env → Sto → SRes} {k : Nat} {D0 : Ends} (h : tS K W (fun d m => whLoop fc fb k d m) D0 σ H) : tWhile (tT K W fc) (tS K W fb) D0 σ H := by
  refine ⟨fun n σ H => tS K W (fun d m => whLoop fc fb n d m) D0 σ H, ⟨k, h⟩, fun n σ H ⟨Z, r, δ, m, rs, g⟩ => ?_⟩
  cases n with
  | zero => exact g.elim
  | succ n =>
    refine ⟨Z, r, δ, m, rs, (GS.thenB rs g).mono fun b H1 ⟨r1, m1, e1, rs1, _, g1⟩ => ?_⟩
    cases b with
    | false =>
      rw [if_neg Bool.false_ne_true] at g1 ⊢
      exact g1 σ H1 r1 (.refl _ _) rs1
    | true =>
      rw [if_pos rfl] at g1 ⊢
      refine ⟨_, fun σ' H' h => ⟨n, Nat.lt_succ_self n, h⟩, Z, r1, δ, m1, rs1, ?_⟩
      cases q : fb δ m1 with
      | ok o d2 m2 =>
        rw [q] at g1
        cases o with
        | nx => exact fun σ2 H2 r2 e2 rs2 => ⟨Z, r2, d2, m2, rs2, GS.ext e2 g1⟩
        | ct => exact fun σ2 H2 r2 e2 rs2 => ⟨Z, r2, d2, m2, rs2, GS.ext e2 g1⟩
        | bk => exact g1
        | ret d => exact g1
      | exc c es δ m => rw [q] at g1; exact g1
      | stuck => rw [q] at g1; exact g1
theorem nox_ok {α : Type} {x : Res α} {a : α} {m : Sto} (h : x.nox = .ok a m) : x = .ok a m := by
  cases x with
  | ok b k => exact h
  | exc c es k => cases h
  | stuck => cases h
theorem nox_ne {α : Type} {x : Res α} (c : Str) (es : List D) (m : Sto) : x.nox ≠ .exc c es m := by
  cases x <;> (intro h; cases h)
/-- items that stand while chk holds -/
structure WKc (K : PySem.W.Frag) (Z : PZ) (r : List Addr) (H : Hp) (ds : List D) (chk : Sto → Bool) (J : It) : Prop where
  ex : ∃ G Y, Walk J ds.length G Y ∧ ∀ Z2 r2 H2 m2, (∀ a, Z2 a → Z a ∨ H a = none) → Ext r H r2 H2 → SR K Z2 r2 H2 m2 → chk m2 = true → G H2 ∧ ∀ i x H', i < ds.length → Y i H2 x H' → ∃ d, ds[i]? = some d ∧ Ext r2 H2 r2 H' ∧ SR K Z2 r2 H' m2 ∧ VR K Z2 r2 H' d x
def ForGo (J : It) (g : TG) (tb : TS) (D : Ends) (σ : L2.St) (H : Hp) : Prop := ∃ W : Nat → Nat → L2.St → Hp → Prop, (∃ m, W 0 m σ H) ∧ ∀ i m σ H, W i m σ H →
  (J.stop i H ∧ D.nx σ H) ∨ (J.go i H ∧ ∃ N : L2.St → Hp → Prop, (∀ σ' H', N σ' H' → ∃ m', m' < m ∧ W (i + 1) m' σ' H') ∧ ∀ x H', J.yld i H x H' → g x σ H' fun σ2 H2 => tb { D with nx := N, ct := N, bk := D.nx } σ2 H2)
theorem for_go {ft : D → Env → Sto → Res Env} {fb : Env → Sto → SRes} {ix : List Nat} {D0 : Ends} {ds : List D} {chk : Sto → Bool} {J : It} {r1 : List Addr} {H1 : Hp} {m1 : Sto}
    (wk : WKc K Z r1 H1 ds chk J) (rs1 : RS K Z r1 H1 σ δ m1) (g1 : GS K W Z r1 H1 (forLoop chk ft fb ds δ m1) D0) : ForGo J (gT K ix ft) (tS K W fb) D0 σ H1 := by
  obtain ⟨G, Y, w, hw⟩ := wk.ex
  have chkd : ∀ {r2 : List Addr} {H2 : Hp} {ds : List D} {δ2 : Env} {m2 : Sto}, GS K W Z r2 H2 (forLoop chk ft fb ds δ2 m2) D0 → chk m2 = true := by
    intro r2 H2 ds δ2 m2 g
    cases ds <;> (rw [forLoop] at g; split at g <;> first | assumption | exact g.elim)
  refine for_it w (fun i σ' H' => ∃ r2 δ2 m2, Ext r1 H1 r2 H' ∧ RS K Z r2 H' σ' δ2 m2 ∧ GS K W Z r2 H' (forLoop chk ft fb (ds.drop i) δ2 m2) D0) ⟨r1, δ, m1, .refl _ _, rs1, g1⟩ ?_ ?_ ?_
  · rintro i σ' H' _ ⟨r2, δ2, m2, e2, rs2, g2⟩
    exact (hw Z r2 H' m2 (fun a z => .inl z) e2 rs2.sr (chkd g2)).1
  · rintro i x σ' H2 H' hi ⟨r2, δ2, m2, e2, rs2, g2⟩ y
    have hc := chkd g2
    obtain ⟨d, hd, e3, s3, h3⟩ := (hw Z r2 H2 m2 (fun a z => .inl z) e2 rs2.sr hc).2 i x H' hi y
    have hdr : ds.drop i = d :: ds.drop (i + 1) := by
      have hl := (List.getElem?_eq_some_iff.mp hd)
      rw [List.drop_eq_getElem_cons hl.1, hl.2]
    rw [hdr, forLoop, if_pos hc] at g2
    obtain ⟨δ1, m3, q, g3⟩ := g2.thenT fun c es m => nox_ne c es m
    refine ⟨Z, r2, δ2, m2, d, rs2.ext e3 s3, h3, δ1, m3, nox_ok q, fun σ1 H3 r3 e4 rs3 _ => ?_⟩
    have g3 := GS.ext (e3.trans e4) g3
    have ea : Ext r1 H1 r3 H3 := (e2.trans e3).trans e4
    refine ⟨Z, r3, δ1, m3, rs3, ?_⟩
    cases q2 : fb δ1 m3 with
    | ok o d2 m4 =>
      rw [q2] at g3
      cases o with
      | nx => exact fun σ2 H4 r4 e5 rs4 => ⟨r4, d2, m4, ea.trans e5, rs4, GS.ext e5 g3⟩
      | ct => exact fun σ2 H4 r4 e5 rs4 => ⟨r4, d2, m4, ea.trans e5, rs4, GS.ext e5 g3⟩
      | bk => exact g3
      | ret d => exact g3
    | exc c es δ m => rw [q2] at g3; exact g3
    | stuck => rw [q2] at g3; exact g3
  · rintro σ' H' ⟨r2, δ2, m2, e2, rs2, g2⟩
    have hc := chkd g2
    rw [List.drop_eq_nil_of_le (Nat.le_refl _), forLoop, if_pos hc] at g2
    exact g2 σ' H' r2 (.refl _ _) rs2
theorem for_imp {fi : Env → Sto → Res Itm} {ft : D → Env → Sto → Res Env} {fb : Env → Sto → SRes} {ix : List Nat} {D0 : Ends} (h : tS K W (fun d m => (fi d m).then d fun vs m1 => forLoop vs.chk ft fb vs.ds d m1) D0 σ H) :
    tFor (iT K W fi) (gT K ix ft) (tS K W fb) D0 σ H := by
  obtain ⟨Z, r, δ, m, rs, g⟩ := h
  exact ⟨Z, r, δ, m, rs, (GS.thenI rs g).mono fun J H1 ⟨r1, it, m1, e1, rs1, wk, _, g1⟩ => for_go (chk := it.chk) ⟨wk.ex⟩ rs1 g1⟩
/-- a cell written in whatever way -/
theorem RS.write0 {n : Nat} {a : Addr} {o : HO} {c : Cell} (R : RS K Z r H σ δ m) (h : r[n]? = some a) (hc : CR K Z r (upd H a o) c a) : RS K Z r (upd H a o) σ δ (m.set n c) :=
  ⟨R.len, fun i d hd => let ⟨v, h1, h2⟩ := R.vs i d hd; ⟨v, h1, VR.ext0 (Ext0.write h) d h2⟩, R.sr.write h hc⟩
/-- the ends seen from within a lock -/
def inLock (a : Addr) (od : Obj) (u : HO) (D : Ends) : Ends := ⟨fun σ' H' => H' a = some (.frz od u) ∧ D.nx σ' (upd H' a u), fun v H' => H' a = some (.frz od u) ∧ D.rt v (upd H' a u), fun σ' H' => H' a = some (.frz od u) ∧ D.bk σ' (upd H' a u), fun σ' H' => H' a = some (.frz od u) ∧ D.ct σ' (upd H' a u)⟩
theorem unlok_gs {n : Nat} {ks : List Key} {es : List D} {xs : List V} {a : Addr} {od : Obj} {x : SRes} (ha : r[n]? = some a) (hH : H a = some (.dK (ks.zip xs))) (hl : ks.length = xs.length) (hx : VRs K Z r H es xs)
    (g : GS K W Z r H (unlok n ks es x) D0) : GS K W Z r (upd H a (.frz od (.dK (ks.zip xs)))) x (inLock a od (.dK (ks.zip xs)) D0) := by
  have back : ∀ {r2 : List Addr} {H2 : Hp}, Ext r (upd H a (.frz od (.dK (ks.zip xs)))) r2 H2 → H2 a = some (.frz od (.dK (ks.zip xs))) ∧ Ext r H r2 (upd H2 a (.dK (ks.zip xs))) := by
    intro r2 H2 e
    have hr : a ∈ r := List.mem_of_getElem? ha
    refine ⟨e.fz a _ _ upd_same, ⟨⟨?_, fun b o hb hn => ?_, fun b hb => ?_⟩, fun b o u hb => ?_⟩⟩
    · obtain ⟨t, h1, h2⟩ := e.pre
      refine ⟨t, h1, fun b hb => ?_⟩
      have q := h2 b hb
      by_cases z : b = a
      · subst z; rw [upd_same] at q; cases q
      · rwa [upd_ne z] at q
    · have z : b ≠ a := fun z => hn (by rw [z]; exact hr)
      rw [upd_ne z]
      exact e.keep b o (by rw [upd_ne z]; exact hb) hn
    · by_cases z : b = a
      · subst z; rw [upd_same]; exact fun q => by cases q
      · rw [upd_ne z]; exact e.still b (by rw [upd_ne z]; exact hb)
    · by_cases z : b = a
      · subst z; rw [hH] at hb; cases hb
      · rw [upd_ne z]; exact e.fz b o u (by rw [upd_ne z]; exact hb)
  have fin : ∀ {r2 : List Addr} {H2 : Hp} {m : Sto} {σ : L2.St} {δ : Env}, Ext r (upd H a (.frz od (.dK (ks.zip xs)))) r2 H2 → RS K Z r2 H2 σ δ m → RS K Z r2 (upd H2 a (.dK (ks.zip xs))) σ δ (m.set n (.dct ks es)) := by
    intro r2 H2 m σ δ e rs
    exact rs.write0 (e.get ha) ⟨xs, upd_same, hl, hx.ext (back e).2⟩
  have finS : ∀ {r2 : List Addr} {H2 : Hp} {m : Sto}, Ext r (upd H a (.frz od (.dK (ks.zip xs)))) r2 H2 → SR K Z r2 H2 m → SR K Z r2 (upd H2 a (.dK (ks.zip xs))) (m.set n (.dct ks es)) := by
    intro r2 H2 m e s
    exact s.write (e.get ha) ⟨xs, upd_same, hl, hx.ext (back e).2⟩
  cases x with
  | ok o δ m =>
    unfold unlok at g
    dsimp only at g
    split at g
    · cases o with
      | nx => exact fun σ H1 r1 e rs => ⟨(back e).1, g σ _ r1 (back e).2 (fin e rs)⟩
      | bk => exact fun σ H1 r1 e rs => ⟨(back e).1, g σ _ r1 (back e).2 (fin e rs)⟩
      | ct => exact fun σ H1 r1 e rs => ⟨(back e).1, g σ _ r1 (back e).2 (fin e rs)⟩
      | ret d => exact fun v H1 r1 e s hv => ⟨(back e).1, g v _ r1 (back e).2 (finS e s) (VR.ext0 (Ext0.write (e.get ha)) d hv)⟩
    · exact g.elim
  | exc c es δ m => exact g.elim
  | stuck => exact g.elim
theorem lokB_inv {n : Nat} {ks : List Key} {es : List D} {m : Sto} (h : lokB n ks es m = true) : m[n]? = some (.lok ks es) := by
  unfold lokB at h
  split at h
  · rename_i ks' es' em
    rw [Bool.and_eq_true] at h
    rw [em, of_decide_eq_true h.1, D.sames_eq _ _ h.2]
  · cases h
theorem keyD_VR {k : Key} : VR K Z r H (keyD k) (kV k) := by
  cases k with
  | inl i => exact .intI
  | inr x => exact .strI
theorem wkc_vals {a : Addr} {od : Obj} {ks : List Key} {es : List D} {xs : List V} {n : Nat} (hl : ks.length = xs.length) (hx : VRs K Z r H es xs) (hH : H a = some (.frz od (.dK (ks.zip xs)))) : WKc K Z r H (dctIt false ks es) (lokB n ks es) (Itd a od (ks.zip xs)) := by
  refine ⟨_, _, by rw [show (dctIt false ks es).length = (ks.zip xs).length by rw [List.length_zip, hl, Nat.min_self, hx.length]; rfl]; exact walk_values, fun Z2 r2 H2 m2 hz e s _ => ⟨e.fz _ _ _ hH, fun i x H' hi y => ?_⟩⟩
  obtain ⟨rfl, k, hk⟩ := y
  have hk2 : xs[i]? = some x := by
    rw [List.getElem?_zip_eq_some] at hk
    exact hk.2
  obtain ⟨d, h1, h2⟩ := ((hx.addZ' hz).ext e).get' hk2
  exact ⟨d, h1, .refl _ _, s, h2⟩
theorem wkc_items {a : Addr} {od : Obj} {ks : List Key} {es : List D} {xs : List V} {n : Nat} (hl : ks.length = xs.length) (hx : VRs K Z r H es xs) (hH : H a = some (.frz od (.dK (ks.zip xs)))) : WKc K Z r H (dctIt true ks es) (lokB n ks es) (Iti a od (ks.zip xs)) := by
  refine ⟨_, _, by rw [show (dctIt true ks es).length = (ks.zip xs).length by unfold dctIt; rw [if_pos rfl, List.length_zipWith, List.length_zip, hl, hx.length]]; exact walk_items, fun Z2 r2 H2 m2 hz e s _ => ⟨e.fz _ _ _ hH, fun i x H' hi y => ?_⟩⟩
  obtain ⟨T, x1, x2, rfl, h1, rfl, h2, h3⟩ := y
  obtain ⟨⟨k, v⟩, h4, h5⟩ := Option.map_eq_some_iff.mp h2
  obtain ⟨⟨k', v'⟩, h6, h7⟩ := Option.map_eq_some_iff.mp h3
  rw [h4] at h6
  cases h6
  subst h5 h7
  rw [List.getElem?_zip_eq_some] at h4
  obtain ⟨d, h8, h9⟩ := ((hx.addZ' hz).ext e).get' h4.2
  refine ⟨.tup [keyD k, d], ?_, .obj h1, s.obj h1, ?_⟩
  · unfold dctIt
    rw [if_pos rfl, List.getElem?_zipWith, h4.1, h8]
  · rw [VR]
    exact ⟨T, _, rfl, .inl ⟨.inl upd_same, s.fresh h1⟩, VRs.obj (.cons keyD_VR (.cons h9 .nil)) h1⟩
end
section
variable {X : Cx} {W : WX} {N : List Str} {sc : Scope}
theorem s_aug (S : SY X W N sc) {i : Nat} {op : Operator} {x : Str} {px pos : Pos} {e : PySem.Expr} {fa : Env → Sto → Res D} (hN : N[i]? = some x) (hx : locB sc x = true) (he : PE X e (tE X.K W fa)) : PS X (.AugAssign (.Name x px) op e pos) (tS X.K W fun d m => evAug i op fa d m) := by
  have k1 : X.env.scope.names.lookup x = some .local := by rw [S.hs]; exact loc_of hx
  by_cases ha : op = .Add
  · subst ha
    refine (ps_aug (i := i) (by rw [S.hN]; exact S.nd) (by rw [S.hN]; exact hN) (.inl k1) he ip_add (.inr k1)).imp fun D0 σ H ⟨Z, r, δ, m, rs, g⟩ => ?_
    unfold evAug at g
    dsimp only at g
    split at g
    · rename_i a ea
      obtain ⟨v, h1, h2⟩ := rs.vs i _ ea
      obtain rfl := h2.int_inv
      refine ⟨_, h1, Z, r, δ, m, rs, (GS.then rs g).mono fun v H1 ⟨r1, d, m1, e1, rs1, hv, _, g1⟩ => ?_⟩
      split at g1
      · obtain rfl := hv.int_inv
        exact ⟨_, _, rfl, rfl, g1 _ H1 r1 (.refl _ _) (rs1.set .intI)⟩
      · exact g1.elim
    · rename_i h _; cases h
    · exact g.elim
  · by_cases hs : op = .Sub
    · subst hs
      refine (ps_aug (i := i) (by rw [S.hN]; exact S.nd) (by rw [S.hN]; exact hN) (.inl k1) he ip_sub (.inr k1)).imp fun D0 σ H ⟨Z, r, δ, m, rs, g⟩ => ?_
      unfold evAug at g
      dsimp only at g
      split at g
      · rename_i h _; cases h
      · rename_i a ea
        obtain ⟨v, h1, h2⟩ := rs.vs i _ ea
        obtain rfl := h2.int_inv
        refine ⟨_, h1, Z, r, δ, m, rs, (GS.then rs g).mono fun v H1 ⟨r1, d, m1, e1, rs1, hv, _, g1⟩ => ?_⟩
        split at g1
        · obtain rfl := hv.int_inv
          exact ⟨_, _, rfl, rfl, g1 _ H1 r1 (.refl _ _) (rs1.set .intI)⟩
        · exact g1.elim
      · exact g.elim
    · refine ⟨fun pins s σ H D0 I ⟨Z, r, δ, m, rs, g⟩ => ?_⟩
      unfold evAug at g
      dsimp only at g
      split at g
      · exact absurd rfl ha
      · exact absurd rfl hs
      · exact g.elim
theorem s_setlc (S : SY X W N sc) {i : Nat} {elt : Ex} {t : Tgt} {it : ME.Itr} {ifs : Exs} {own : List (Str × Nat)} {y : Str} {py pos : Pos} {e' : PySem.Expr} (hN : N[i]? = some y) (ok : OkE (gw X) (.lc elt t it ifs own)) (h : mE N sc (.lc elt t it ifs own) e' = true) (sw : swB sc (.Name y py) e' = true) :
    PS X (.Assign [.Name y py] e' pos) (tS X.K W fun d m => (ev (.lc elt t it ifs own) d m).then d fun v m1 => (asgn (.name i) v d m1).nox.then d fun d1 m2 => .ok .nx d1 m2) := by
  obtain ⟨elt', t', it', ifs', scope', p2, rfl, h1, h2, h3, h4, h5, h6, h7⟩ := mE_lc h
  have hb : BlkOk X.N X.env.scope scope' own := by rw [S.hN, S.hs]; exact blkOk_by h1
  have sw : (locB sc y && (py.line == p2.line) && !(scope'.names.any fun (n, k) => n == y && (k == .local || k == .cell))) = true := sw
  rw [Bool.and_eq_true, Bool.and_eq_true, Bool.not_eq_true'] at sw
  have k1 : X.env.scope.names.lookup y = some .local := by rw [S.hs]; exact loc_of sw.1.1
  refine (ps_setLc (i := i) (wi := iT X.K W (evIt it)) (g := gT X.K (tix t) (asgn t)) (tt := tT X.K W0 (evIfs ifs)) (te := tE X.K W0 (ev elt)) S.calm (by rw [S.hN]; exact S.nd) (by rw [S.hN]; exact hN) k1 (sw_true (by rw [S.hs]; exact S.kd) k1 sw.1.2 sw.2) (sI N it X W sc it' t' S.toSX ok.2.2.1 h5) hb
      (fun s H C cl fp => sT N t _ W0 _ t' (ownCell scope') (fun x hx => hx) (S.toSX.blk s H scope' C cl fp) ok.2.1 h4)
      (fun s H C cl fp => sIfs N ifs _ W0 _ ifs' (S.toSX.blk s H scope' C cl fp) ok.2.2.2 h6 h7)
      (fun s H C cl fp => (sE N elt _ W0 _ elt' (S.toSX.blk s H scope' C cl fp) ok.1 h3).1) (mI_noset h5)).imp fun D0 σ H ⟨Z, r, δ, m, rs, g⟩ => ?_
  refine lc_imp (fun i hi => ?_) (show tE X.K W (ev (.lc elt t it ifs own)) σ H (fun x H1 => gName i x σ H1 D0.nx) from ⟨Z, r, δ, m, rs, (GS.then rs g).mono fun v H1 ⟨r1, d, m1, e1, rs1, hv, _, g1⟩ => ?_⟩)
  · unfold ownOk at h2
    exact of_decide_eq_true (List.all_eq_true.mp h2 i hi)
  · exact g1 _ H1 r1 (.refl _ _) (rs1.set hv)
theorem s_setlcM (S : SY X W N sc) {i : Nat} {elt : Ex} {t : Tgt} {it : ME.Itr} {ifs : Exs} {own : List (Str × Nat)} {y : Str} {py pos : Pos} {e' : PySem.Expr} (hN : N[i]? = some y) (ok : OkE (gw X) (.lcM elt t it ifs own)) (h : mE N sc (.lcM elt t it ifs own) e' = true) (sw : swB sc (.Name y py) e' = true) :
    PS X (.Assign [.Name y py] e' pos) (tS X.K W fun d m => (ev (.lcM elt t it ifs own) d m).then d fun v m1 => (asgn (.name i) v d m1).nox.then d fun d1 m2 => .ok .nx d1 m2) := by
  obtain ⟨elt', t', it', ifs', scope', p2, rfl, h1, h2, h3, h4, h5, h6, h7⟩ := mE_lcM h
  have hb : BlkOk X.N X.env.scope scope' own := by rw [S.hN, S.hs]; exact blkOk_by h1
  have sw : (locB sc y && (py.line == p2.line) && !(scope'.names.any fun (n, k) => n == y && (k == .local || k == .cell))) = true := sw
  rw [Bool.and_eq_true, Bool.and_eq_true, Bool.not_eq_true'] at sw
  have k1 : X.env.scope.names.lookup y = some .local := by rw [S.hs]; exact loc_of sw.1.1
  refine (ps_setLc (i := i) (wi := iT X.K W (evIt it)) (g := gT X.K (tix t) (asgn t)) (tt := tT X.K W0 (evIfs ifs)) (te := tE X.K W0 (ev elt)) S.calm (by rw [S.hN]; exact S.nd) (by rw [S.hN]; exact hN) k1 (sw_true (by rw [S.hs]; exact S.kd) k1 sw.1.2 sw.2) (sI N it X W sc it' t' S.toSX ok.2.2.1 h5) hb
      (fun s H C cl fp => sT N t _ W0 _ t' (ownCell scope') (fun x hx => hx) (S.toSX.blk s H scope' C cl fp) ok.2.1 h4)
      (fun s H C cl fp => sIfs N ifs _ W0 _ ifs' (S.toSX.blk s H scope' C cl fp) ok.2.2.2 h6 h7)
      (fun s H C cl fp => (sE N elt _ W0 _ elt' (S.toSX.blk s H scope' C cl fp) ok.1 h3).1) (mI_noset h5)).imp fun D0 σ H ⟨Z, r, δ, m, rs, g⟩ => ?_
  refine lcM_imp (fun i hi => ?_) (show tE X.K W (ev (.lcM elt t it ifs own)) σ H (fun x H1 => gName i x σ H1 D0.nx) from ⟨Z, r, δ, m, rs, (GS.then rs g).mono fun v H1 ⟨r1, d, m1, e1, rs1, hv, _, g1⟩ => ?_⟩)
  · unfold ownOk at h2
    exact of_decide_eq_true (List.all_eq_true.mp h2 i hi)
  · exact g1 _ H1 r1 (.refl _ _) (rs1.set hv)
theorem s_loopE (S : SY X W N sc) {c f x : Str} {i : Nat} {t' : PySem.Expr} {px p2 apos cpos pos : Pos} {body : List Stmt} (ok : FldOk (gw X) c f) (hN : N[i]? = some x) (hv : visB sc x = true) (h1 : (x == ("__debug__" : Str)) = false) (h2 : (x == ("__classdict__" : Str)) = false)
    (hl : (apos.endLine == cpos.line) = true) : PS X (.For t' (.Call (.Attribute (.Attribute (.Name x px) f p2) "values" apos) [] [] cpos) body [] pos) (tS X.K W fun d m => evEmp c i f d m) := by
  have hpe : PE X (.Attribute (.Name x px) f p2) (tFld X.K (tVar i) f) := pe_fld (pe_var (i := i) (by rw [S.hN]; exact hN) (by rw [S.hs]; exact vis_of hv) h1 h2) (base_ok rfl)
  have hpg : PG X t' (fun _ _ _ _ => False) := ⟨fun _ _ _ _ _ _ _ _ _ h => h.elim⟩
  refine (ps_lock (ps_for S.hp S.calm (pi_values hpe (base_ok rfl) hl) hpg (pss_never (sts := body)) (fun x => rfl))).imp fun D0 σ H ⟨Z, r, δ, m, rs, g⟩ => ?_
  unfold evEmp at g
  dsimp only at g
  split at g
  · rename_i xd ed
    obtain ⟨v, hσ, hv1⟩ := rs.vs i xd ed
    split at g
    · rename_i n m' ef
      split at g
      · rename_i ec
        unfold evFld at ef
        split at ef
        · rename_i c' ns fs ei
          split at ef
          · rename_i hc
            subst hc
            split at ef
            · rename_i w ew
              cases ef
              obtain ⟨p, dx, xs, rfl, q1, q2, q3⟩ := rs.sr.ins hv1 ei
              obtain ⟨z, q4, q5⟩ := fld_look q2 q3 ew
              obtain ⟨a, rfl, ha⟩ := q5.ref_inv
              obtain ⟨ys, q6, q7, q8⟩ := rs.sr.cellD ha ec
              have hys : ys = [] := q8.inv_nil
              subst hys
              have hpa : p ≠ a := by
                rintro rfl
                rw [q6] at q1; cases q1
              have back : ∀ od : Obj, upd (upd H a (.frz od (.dK []))) a (.dK []) = H := fun od => by
                funext b
                by_cases hb : b = a
                · subst hb; rw [upd_same]; exact q6.symm
                · rw [upd_ne hb, upd_ne hb]
              refine ⟨a, .dK [], q6, trivial, fun od => ?_⟩
              refine ⟨.ref p, hσ, p, _, dx, _, .ref a, rfl, by rw [upd_ne hpa]; exact q1, ok.1, ok.2, q4, a, od, [], rfl, upd_same, ?_⟩
              refine ⟨fun i' _ σ' H' => i' = 0 ∧ σ' = σ ∧ H' = upd H a (.frz od (.dK [])), ⟨0, rfl, rfl, rfl⟩, ?_⟩
              rintro i' _ σ' H' ⟨rfl, rfl, rfl⟩
              refine .inl ⟨(walk_values (kvs := [])).stops _ upd_same, upd_same, ?_⟩
              rw [back]
              exact g σ' H r (.refl _ _) rs
            · cases ef
          · cases ef
        · cases ef
      · exact g.elim
    · exact g.elim
  · exact g.elim
theorem s_loopD (S : SY X W N sc) {c f x : Str} {i : Nat} {kd : Bool} {t' : PySem.Expr} {px p2 apos cpos pos : Pos} {body : List Stmt} {ix : List Nat} {ft : D → Env → Sto → Res Env} {fb : Env → Sto → SRes} (ok : FldOk (gw X) c f) (hN : N[i]? = some x) (hv : visB sc x = true) (h1 : (x == ("__debug__" : Str)) = false) (h2 : (x == ("__classdict__" : Str)) = false)
    (hl : (apos.endLine == cpos.line) = true) (ht : (!kd || isTupT t') = true) (hg : PG X t' (gT X.K ix ft)) (hb : PSs X body (tS X.K W fb)) : PS X (.For t' (.Call (.Attribute (.Attribute (.Name x px) f p2) (if kd = true then "items" else "values" : Str) apos) [] [] cpos) body [] pos) (tS X.K W fun d m => evLoopD c i f kd ft fb d m) := by
  have hpe : PE X (.Attribute (.Name x px) f p2) (tFld X.K (tVar i) f) := pe_fld (pe_var (i := i) (by rw [S.hN]; exact hN) (by rw [S.hs]; exact vis_of hv) h1 h2) (base_ok rfl)
  have core : ∀ (od : Obj → Addr → List (Key × V) → It), (∀ {Z : PZ} {r : List Addr} {H : Hp} {a : Addr} {o : Obj} {ks : List Key} {es : List D} {xs : List V} {n : Nat}, ks.length = xs.length → VRs X.K Z r H es xs → H a = some (.frz o (.dK (ks.zip xs))) → WKc X.K Z r H (dctIt kd ks es) (lokB n ks es) (od o a (ks.zip xs))) →
      ∀ D0 σ H, tS X.K W (fun d m => evLoopD c i f kd ft fb d m) D0 σ H → tLock (tFor (fun σ H R => tFld X.K (tVar i) f σ H fun x H1 => ∃ d o kvs, x = .ref d ∧ H1 d = some (.frz o (.dK kvs)) ∧ R (od o d kvs) H1) (gT X.K ix ft) (tS X.K W fb)) D0 σ H := by
    rintro J hJ D0 σ H ⟨Z, r, δ, m, rs, g⟩
    unfold evLoopD at g
    dsimp only at g
    split at g
    · rename_i xd ed
      obtain ⟨v, hσ, hv1⟩ := rs.vs i xd ed
      split at g
      · rename_i n m' ef
        split at g
        · rename_i ks es ec
          unfold evFld at ef
          split at ef
          · rename_i c' ns fs ei
            split at ef
            · rename_i hc
              subst hc
              split at ef
              · rename_i w ew
                cases ef
                obtain ⟨p, dx, xs, rfl, q1, q2, q3⟩ := rs.sr.ins hv1 ei
                obtain ⟨z, q4, q5⟩ := fld_look q2 q3 ew
                obtain ⟨a, rfl, ha⟩ := q5.ref_inv
                obtain ⟨ys, q6, q7, q8⟩ := rs.sr.cellD ha ec
                have hpa : p ≠ a := by
                  rintro rfl
                  rw [q6] at q1; cases q1
                refine ⟨a, .dK (ks.zip ys), q6, trivial, fun od => ?_⟩
                refine ⟨.ref p, hσ, p, _, dx, _, .ref a, rfl, by rw [upd_ne hpa]; exact q1, ok.1, ok.2, q4, a, od, _, rfl, upd_same, ?_⟩
                have e1 : Ext r H r (upd H a (.frz od (.dK (ks.zip ys)))) := .write ha (by rw [q6]; trivial)
                have rs1 : RS X.K Z r (upd H a (.frz od (.dK (ks.zip ys)))) σ δ (m.set n (.lok ks es)) := rs.write0 ha ⟨od, ys, upd_same, q7, q8.ext e1⟩
                exact for_go (hJ q7 (q8.ext e1) upd_same) rs1 (unlok_gs ha q6 q7 q8 g)
              · cases ef
            · cases ef
          · cases ef
        · exact g.elim
      · exact g.elim
    · exact g.elim
  cases kd with
  | false => exact (ps_lock (ps_for S.hp S.calm (pi_values hpe (base_ok rfl) hl) hg hb (fun x => rfl))).imp (core (fun o d kvs => Itd d o kvs) fun h1 h2 h3 => wkc_vals h1 h2 h3)
  | true =>
    cases t' <;> first | (cases ht; done) | skip
    exact (ps_lock (ps_for S.hp S.calm (pi_items hpe (base_ok rfl) hl) hg hb (fun x => rfl))).imp (core (fun o d kvs => Iti d o kvs) fun h1 h2 h3 => wkc_items h1 h2 h3)
mutual
theorem sS (N : List Str) (k : Nat) : ∀ (s : Sm) (X : Cx) (W : WX) (sc : Scope) (s' : PySem.Stmt), SY X W N sc → OkS (gw X) s → mS N sc s s' = true → PS X s' (tS X.K W (ex k s))
  | .asg t e, X, W, sc, s', S, ok, h => by
    obtain ⟨t', e', pos, rfl, h1, h2, h3, h4, h5⟩ := mS_asg h
    by_cases h6 : swOff sc t' e' = true
    · exact s_asg S.toSX (sE N e X W sc e' S.toSX ok.2 h2).1 (sT N t X W sc t' (fun _ => true) (fun x _ => S.fn x) S.toSX ok.1 h1) h3 h4 h6
    · have h7 : swOff sc t' e' = false := by simpa using h6
      rw [h7, Bool.false_or] at h5
      clear h6 h7
      cases t' <;> first | (cases h5; done) | skip
      rename_i y py
      cases e' <;> first | (cases h5; done) | skip
      cases t <;> first | (cases h1; done) | skip
      rename_i i
      have hi : N[i]? = some y := by
        obtain ⟨x, p, q, q1, _⟩ := mT_name h1
        cases q; exact q1
      cases e <;> first | (cases h2; done) | skip
      · exact ⟨fun _ _ _ _ _ _ ⟨_, _, _, _, _, g⟩ => g.elim⟩
      · exact s_setlc S hi ok.2 h2 h5
      · exact s_setlcM S hi ok.2 h2 h5
  | .par2 i j a b, X, W, sc, s', S, ok, h => by
    obtain ⟨x, px, y, py, kt, pt, a', b', k2, pt2, pos, rfl, h1, h2, h3, h4, h5, h6⟩ := mS_par2 h
    exact s_par2 S h1 h2 h3 h4 (sE N a X W sc a' S.toSX ok.1 h5).1 (sE N b X W sc b' S.toSX ok.2 h6).1
  | .par3 i j l a b c, X, W, sc, s', S, ok, h => by
    obtain ⟨x, px, y, py, z, pz, kt, pt, a', b', c', k2, pt2, pos, rfl, h1, h1b, h1c, h2, h3, h3b, h4, h5, h6, h7⟩ := mS_par3 h
    exact s_par3 S h1 h1b h1c h2 h3 h3b h4 (sE N a X W sc a' S.toSX ok.1 h5).1 (sE N b X W sc b' S.toSX ok.2.1 h6).1 (sE N c X W sc c' S.toSX ok.2.2 h7).1
  | .aug i op e, X, W, sc, s', S, ok, h => by
    obtain ⟨x, px, e', pos, rfl, h1, h2, h3⟩ := mS_aug h
    exact s_aug S h1 h2 (sE N e X W sc e' S.toSX ok h3).1
  | .ret e, X, W, sc, s', S, ok, h => by
    obtain ⟨e', pos, rfl, h1⟩ := mS_ret h
    exact (ps_ret (sE N e X W sc e' S.toSX ok h1).1).imp fun D0 σ H ⟨Z, r, δ, m, rs, g⟩ => ⟨Z, r, δ, m, rs, (GS.then rs g).mono fun v H1 ⟨r1, d, m1, e1, rs1, hv, _, g1⟩ => g1 v H1 r1 (.refl _ _) rs1.sr hv⟩
  | .retN, X, W, sc, s', S, ok, h => by
    obtain ⟨pos, rfl⟩ := mS_retN h
    exact ps_retN.imp fun D0 σ H ⟨Z, r, δ, m, rs, g⟩ => g .non H r (.refl _ _) rs.sr .nonI
  | .ite c a b, X, W, sc, s', S, ok, h => by
    obtain ⟨c', a', b', pos, rfl, h0, h1, h2, h3⟩ := mS_ite h
    refine (ps_if ((sE N c X W sc c' S.toSX ok.1 h1).2 h0) (sSs N k a X W sc a' S ok.2.1 h2) (sSs N k b X W sc b' S ok.2.2 h3)).imp fun D0 σ H ⟨Z, r, δ, m, rs, g⟩ => ⟨Z, r, δ, m, rs, (GS.thenB rs g).mono fun t H1 ⟨r1, m1, e1, rs1, _, g1⟩ => ?_⟩
    cases t with
    | true => rw [if_pos rfl] at g1 ⊢; exact ⟨Z, r1, δ, m1, rs1, g1⟩
    | false => rw [if_neg Bool.false_ne_true] at g1 ⊢; exact ⟨Z, r1, δ, m1, rs1, g1⟩
  | .loop t it body, X, W, sc, s', S, ok, h => by
    obtain ⟨t', it', body', pos, rfl, h1, h2, h3⟩ := mS_loop h
    exact (ps_for S.hp S.calm (sI N it X W sc it' t' S.toSX ok.2.1 h2) (sT N t X W sc t' (fun _ => true) (fun x _ => S.fn x) S.toSX ok.1 h1) (sSs N k body X W sc body' S ok.2.2 h3) (mI_noset h2)).imp fun D0 σ H h => for_imp h
  | .whl c body, X, W, sc, s', S, ok, h => by
    obtain ⟨c', body', pos, rfl, h0, h1, h2⟩ := mS_whl h
    exact (ps_while S.hp ((sE N c X W sc c' S.toSX ok.1 h1).2 h0) (sSs N k body X W sc body' S ok.2 h2)).imp fun D0 σ H h => while_imp h
  | .exp e, X, W, sc, s', S, ok, h => by
    obtain ⟨e', pos, rfl, h1, h2⟩ := mS_exp h
    exact (ps_expr (sE N e X W sc e' S.toSX ok h1).1 (by cases e' <;> first | rfl | cases h2)).imp fun D0 σ H ⟨Z, r, δ, m, rs, g⟩ => ⟨Z, r, δ, m, rs, (GS.then rs g).mono fun v H1 ⟨r1, d, m1, e1, rs1, hv, _, g1⟩ => g1 σ H1 r1 (.refl _ _) rs1⟩
  | .pass, X, W, sc, s', S, ok, h => by
    obtain ⟨pos, rfl⟩ := mS_pass h
    exact ps_pass.imp fun D0 σ H ⟨Z, r, δ, m, rs, g⟩ => g σ H r (.refl _ _) rs
  | .brk, X, W, sc, s', S, ok, h => by
    obtain ⟨pos, rfl⟩ := mS_brk h
    exact ps_break.imp fun D0 σ H ⟨Z, r, δ, m, rs, g⟩ => g σ H r (.refl _ _) rs
  | .cnt, X, W, sc, s', S, ok, h => by
    obtain ⟨pos, rfl⟩ := mS_cnt h
    exact ps_continue.imp fun D0 σ H ⟨Z, r, δ, m, rs, g⟩ => g σ H r (.refl _ _) rs
  | .never, X, W, sc, s', S, ok, h => ⟨fun _ _ _ _ _ _ ⟨_, _, _, _, _, g⟩ => g.elim⟩
  | .doc, X, W, sc, s', S, ok, h => by
    obtain ⟨x, k, p, pos, rfl⟩ := mS_doc h
    exact ps_doc.imp fun D0 σ H ⟨Z, r, δ, m, rs, g⟩ => g σ H r (.refl _ _) rs
  | .loopE c i f, X, W, sc, s', S, ok, h => by
    obtain ⟨t', x, px, p2, apos, cpos, body, pos, rfl, h1, h2, h3, h4, h5⟩ := mS_loopE h
    exact s_loopE S ok h1 h2 h3 h4 h5
  | .loopD c i f kd t body, X, W, sc, s', S, ok, h => by
    obtain ⟨t', x, px, p2, apos, cpos, body', pos, rfl, h1, h2, h3, h4, h5, h6, h7, h8⟩ := mS_loopD h
    exact s_loopD S ok.1 h1 h2 h3 h4 h5 h6 (sT N t X W sc t' (fun _ => true) (fun x _ => S.fn x) S.toSX ok.2.1 h7) (sSs N k body X W sc body' S ok.2.2 h8)
  | .rse c es, X, W, sc, s', S, ok, h => ok.elim
theorem sSs (N : List Str) (k : Nat) : ∀ (ss : List Sm) (X : Cx) (W : WX) (sc : Scope) (ss' : List PySem.Stmt), SY X W N sc → OkSs (gw X) ss → mSs N sc ss ss' = true → PSs X ss' (tS X.K W (exs k ss))
  | [], X, W, sc, ss', S, ok, h => by
    cases ss' with
    | nil => exact pss_nil.imp fun D0 σ H ⟨Z, r, δ, m, rs, g⟩ => g σ H r (.refl _ _) rs
    | cons _ _ => cases h
  | s :: ss, X, W, sc, ss', S, ok, h => by
    cases ss' with
    | nil => cases h
    | cons s' ss' =>
      have h : (mS N sc s s' && mSs N sc ss ss') = true := h
      rw [Bool.and_eq_true] at h
      exact (pss_cons (sS N k s X W sc s' S ok.1 h.1) (sSs N k ss X W sc ss' S ok.2 h.2)).imp fun D0 σ H ⟨Z, r, δ, m, rs, g⟩ => ⟨Z, r, δ, m, rs, g.thn⟩
end
end
end ME
set_option Elab.async false
set_option linter.all false
set_option maxRecDepth 100000
set_option maxHeartbeats 4000000
namespace ME
open PySem PySem.Spec PyProof.Rows L2
/-! ### a def by its small text -/
def runF (k np nN : Nat) (body : List Sm) : Fn := fun ds m => if ds.length = np then (match exs k body (ds.map some ++ List.replicate (nN - np) none) m with
  | .ok .nx _ m1 => .ok .non m1
  | .ok (.ret d) _ m1 => .ok d m1
  | .exc c es _ m1 => .exc c es m1
  | _ => .stuck) else .stuck
theorem RS.start {K : PySem.W.Frag} {Z : PZ} {r : List Addr} {H : Hp} {m : Sto} {ds : List D} {vs : List V} {N : List Str} (s : SR K Z r H m) (h : VRs K Z r H ds vs) : RS K Z r H (L2.start N vs) (ds.map some ++ List.replicate (N.length - ds.length) none) m := by
  have hl := h.length
  refine ⟨by unfold L2.start; simp [hl], fun i d hi => ?_, s⟩
  by_cases hlt : i < ds.length
  · rw [List.getElem?_append_left (by simpa using hlt), List.getElem?_map] at hi
    obtain ⟨d', h1, h2⟩ := Option.map_eq_some_iff.mp hi
    cases h2
    obtain ⟨v, h3, h4⟩ := h.get h1
    refine ⟨v, ?_, h4⟩
    unfold L2.start
    rw [List.getElem?_append_left (by simpa [hl] using hlt), List.getElem?_map, h3]
    rfl
  · rw [List.getElem?_append_right (by simpa using Nat.le_of_not_lt hlt), List.getElem?_replicate] at hi
    split at hi <;> cases hi
section
variable {P : Program} {w : World} {K : PySem.W.Frag} {mg : Str → Option Value} {base : Heap}
theorem fn_sound {name qual : Str} {params : Arguments} {body' : List Stmt} {scope : Scope} {dvs : List V} {kws : List (Str × V)} {f : Addr} {fd : FuncData} {N ps : List Str} {body : List Sm} {fuel k : Nat}
    (F : FunD K name qual params body' scope dvs kws f fd) (hs : C8.scC N ps scope = true) (hm : mSs N scope body body' = true) (ok : ∀ A, Room k A → A.guards = some [] → OkSs ⟨P, w, K, mg, base, A⟩ body) :
    FnG P w K mg base (k + 1) f fd ps (spS K ps.length (runF fuel ps.length N.length body)) := by
  have S := C8.fnScope_by hs
  refine fnG_of F S (fun vs H Q E h => spS_len h) fun cd A outer s H vs Q E hr hg hsp => ?_
  have gd : (A.deeper (envOfC qual scope s.heap.objs.size f cd)).guards = some [] := hg
  have SX : SY (cxOf (L2.CX P w) P w K mg base N qual scope f cd A outer s H E) (fun c d _ H => E c d H) N scope :=
    ⟨⟨rfl, S.nd, rfl, takes_of rfl rfl rfl rfl, rfl, by have := hr.un; show (A.deeper (envOfC qual scope s.heap.objs.size f cd)).units + 70 < cLine; omega, gd⟩, S.kind, passes_of rfl, fun _ => rfl⟩
  refine ⟨_, sSs N fuel body _ _ scope body' SX (ok _ hr gd) hm, ?_⟩
  obtain ⟨Z, r, m, ds, hn, hsr, hv, g⟩ := hsp
  refine ⟨Z, r, _, m, RS.start hsr hv, ?_⟩
  unfold runF at g
  rw [if_pos hn, ← hn] at g
  cases q : exs fuel body (ds.map some ++ List.replicate (N.length - ds.length) none) m with
  | ok o δ m1 =>
    rw [q] at g
    cases o with
    | nx => exact fun σ H1 r1 e rs => g .non H1 r1 e rs.sr .nonI
    | ret d => exact fun v H1 r1 e s' hv' => g v H1 r1 e s' hv'
    | bk => exact g.elim
    | ct => exact g.elim
  | exc c es δ m1 =>
    rw [q] at g
    exact fun C o σ H1 r1 e rs h => g C o H1 r1 e rs.sr h
  | stuck => rw [q] at g; exact g.elim
/-- a def's promise, its address alone -/
structure FnF (P : Program) (w : World) (K : PySem.W.Frag) (mg : Str → Option Value) (base : Heap) (k : Nat) (f : Addr) (F : Fn) : Prop where
  ex : ∃ fd ps n, FnG P w K mg base k f fd ps (spS K n F) ∧ Binds K fd ps [] ∧ ∀ ds m, ds.length ≠ n → F ds m = .stuck
  kp : PySem.W.keepIn K (.ref f) = true
theorem FnF.mk_ {f : Addr} {fd : FuncData} {ps : List Str} {fuel nN k : Nat} {body : List Sm} (G : FnG P w K mg base k f fd ps (spS K ps.length (runF fuel ps.length nN body))) (hb : Binds K fd ps []) (hk : PySem.W.keepIn K (.ref f) = true) :
    FnF P w K mg base k f (runF fuel ps.length nN body) := ⟨⟨fd, ps, ps.length, G, hb, fun ds m h => by unfold runF; rw [if_neg h]⟩, hk⟩
theorem FnF.at0 {k : Nat} {f : Addr} {F : Fn} (h : FnF P w K mg base k f F) {A : Around} (hr : Room (k + 1) A) : FnAt0 ⟨P, w, K, mg, base, A⟩ f F := by
  obtain ⟨fd, ps, n, h1, h2, h3⟩ := h.ex
  exact ⟨fd, ps, n, k, h1, hr, h2, h3⟩
theorem FnF.at {k : Nat} {f : Addr} {F : Fn} (h : FnF P w K mg base k f F) {A : Around} (hr : Room (k + 1) A) : FnAt ⟨P, w, K, mg, base, A⟩ f F := by
  obtain ⟨fd, ps, n, h1, h2, h3⟩ := h.ex
  exact ⟨fd, ps, n, k, F, [], [], [], h1, hr, h2, .nil, fun _ _ _ => .nil, fun es m => by rw [List.append_nil], h3⟩
/-- .. where fewer are written and the defaults dd fill up -/
theorem FnG.at {k n : Nat} {f : Addr} {fd : FuncData} {ps : List Str} {F0 : Fn} {dd : List D} {dvs : List V} {ds : List Value} (h : FnG P w K mg base k f fd ps (spS K n F0)) (hb : Binds K fd ps ds) (hd : Vals dvs ds) (hv : ∀ Z r H, VRs K Z r H dd dvs) (hst : ∀ ds m, ds.length ≠ n → F0 ds m = .stuck)
    {A : Around} (hr : Room (k + 1) A) : FnAt ⟨P, w, K, mg, base, A⟩ f (fun es m => F0 (es ++ dd) m) := ⟨fd, ps, n, k, F0, dd, dvs, ds, h, hr, hb, hd, hv, fun _ _ => rfl, hst⟩
theorem FnF.call {k j : Nat} {x : Str} {f : Addr} {F : Fn} (h : FnF P w K mg base k f F) (hx : mg x = some (.ref f)) {A : Around} (hr : Room j A) (hj : k + 1 ≤ j) : CallOk ⟨P, w, K, mg, base, A⟩ x F := ⟨f, hx, h.kp, h.at (hr.mono hj)⟩
theorem FnF.mth {k j : Nat} {c m : Str} {f : Addr} {F : Fn} (h : FnF P w K mg base k f F) (hc : Cls K (He.ga K c)) (hm : Meth K (He.ga K c) m f) {A : Around} (hr : Room j A) (hj : k + 1 ≤ j) : MthOk ⟨P, w, K, mg, base, A⟩ c m F := ⟨f, hc, hm, h.at (hr.mono hj)⟩
theorem FnF.new {k j : Nat} {c : Str} {f : Addr} {F : Fn} (h : FnF P w K mg base k f F) (hx : mg c = some (.ref (He.ga K c))) (hm : Mk K (He.ga K c) f) {A : Around} (hr : Room j A) (hj : k + 1 ≤ j) : NewOk ⟨P, w, K, mg, base, A⟩ c F := ⟨f, hx, hm, h.at (hr.mono hj)⟩
end
/-! ### facts of the head -/
inductive Fx where
  | a (f : He.Fa)
  | prop (c f : Str)
  | insT (c : Str)
  | kOB (c : Str) (n : String)
  | kBO (c : Str)
  | kOO (c d : Str) (b : Bool)
def propAt (K : PySem.W.Frag) (c f : Str) : Addr × Addr := match PySem.W.findIn K (.ref (He.ga K c)) f with
  | some (some (.ref p)) => (match PySem.W.recIn K p "property" with
    | some (.ref g :: _) => (p, g)
    | _ => (p, 0))
  | _ => (0, 0)
def recB (K : PySem.W.Frag) (p g : Addr) : Bool := match PySem.W.recIn K p "property" with
  | some (.ref g' :: _) => decide (g' = g)
  | _ => false
def Fx.ok (K : PySem.W.Frag) : Fx → Bool
  | .a f => f.ok K
  | .prop c f => decide (PySem.W.findIn K (.ref (He.ga K c)) f = some (some (.ref (propAt K c f).1))) && (decide (PySem.W.specialIn K (.ref (propAt K c f).1) "__get__" = some (some (.builtin "property.__get__"))) &&
      (decide (PySem.W.takesIn K (.ref (propAt K c f).1) = some true) && recB K (propAt K c f).1 (propAt K c f).2))
  | .insT c => He.Fa.ok K (.cls c) && (decide (PySem.W.findIn K (.ref (He.ga K c)) "__class__" = some (some (.builtin "object.__class__"))) &&
      (decide (PySem.W.specialIn K (.builtin "object.__class__") "__get__" = some (some (.builtin "getset_descriptor.__get__"))) && (decide (PySem.W.takesIn K (.builtin "object.__class__") = some true) && decide (PySem.W.mroIn K (He.ga K c) (.type "object") = some true))))
  | .kOB c n => decide (PySem.W.kitOne K (.ref (He.ga K c)) (.type n) = some false)
  | .kBO c => (["NoneType", "bool", "int", "str", "tuple", "list", "dict"] : List String).all fun u => decide (PySem.W.kitOne K (.type u) (.ref (He.ga K c)) = some false)
  | .kOO c d b => decide (PySem.W.kitOne K (.ref (He.ga K c)) (.ref (He.ga K d)) = some b)
theorem prop_ok {K : PySem.W.Frag} {c f : Str} (h : (Fx.prop c f).ok K = true) : PropOf K (He.ga K c) f (propAt K c f).1 (propAt K c f).2 := by
  obtain ⟨h1, h⟩ := He.ba h
  obtain ⟨h2, h⟩ := He.ba h
  obtain ⟨h3, h4⟩ := He.ba h
  refine ⟨of_decide_eq_true h1, of_decide_eq_true h2, of_decide_eq_true h3, ?_⟩
  unfold recB at h4
  split at h4
  · rename_i g' rest e
    rw [of_decide_eq_true h4] at e
    exact ⟨rest, e⟩
  · cases h4
theorem insT_ok {K : PySem.W.Frag} {c : Str} (h : (Fx.insT c).ok K = true) : InsTy K (He.ga K c) := by
  obtain ⟨h1, h⟩ := He.ba h
  obtain ⟨h2, h⟩ := He.ba h
  obtain ⟨h3, h⟩ := He.ba h
  obtain ⟨h4, h5⟩ := He.ba h
  exact ⟨He.cls_ok h1, of_decide_eq_true h2, of_decide_eq_true h3, of_decide_eq_true h4, of_decide_eq_true h5⟩
theorem kOB_ok {K : PySem.W.Frag} {c : Str} {n : String} (h : (Fx.kOB c n).ok K = true) : PySem.W.kitOne K (.ref (He.ga K c)) (.type n) = some false := of_decide_eq_true h
theorem kBO_ok {K : PySem.W.Frag} {c : Str} (h : (Fx.kBO c).ok K = true) : ∀ u ∈ (["NoneType", "bool", "int", "str", "tuple", "list", "dict"] : List String), PySem.W.kitOne K (.type u) (.ref (He.ga K c)) = some false :=
  fun u hu => of_decide_eq_true (List.all_eq_true.mp h u hu)
theorem kOO_ok {K : PySem.W.Frag} {c d : Str} {b : Bool} (h : (Fx.kOO c d b).ok K = true) : PySem.W.kitOne K (.ref (He.ga K c)) (.ref (He.ga K d)) = some b := of_decide_eq_true h
/-- one def: its address by names, its name, qualified name, parameters, body, scope, defaults -/
structure DefA where
  adr : PySem.W.Frag → Addr
  name : Str
  qual : Str
  params : Arguments
  body : List Stmt
  scope : Scope
  dfl : List He.Dv := []
def fnWA (K : PySem.W.Frag) (a : Addr) : He.FnW := match K.lookup a with
  | some ⟨_, _, .func fd, _⟩ => some (fd.name, fd.qualname, fd.params, fd.body, fd.scope, fd.globals, fd.closure, fd.builtins)
  | _ => none
def DefA.val (d : DefA) : He.FnW := some (d.name, d.qual, d.params, .stmts d.body, d.scope, mainGlobals, [], builtinsNs)
def DefA.dvs (K : PySem.W.Frag) (d : DefA) : List V := d.dfl.map (He.Dv.v K)
def DefA.ok (K : PySem.W.Frag) (d : DefA) : Bool := PySem.W.keepIn K (.ref (d.adr K)) && (match K.lookup (d.adr K) with
  | some ⟨_, _, .func fd, _⟩ => PySem.W.codeIn K fd.code d.qual && He.dflB K fd.defaults (d.dvs K)
  | _ => false)
theorem DefA.funD {K : PySem.W.Frag} {d : DefA} (e : fnWA K (d.adr K) = d.val) (c : d.ok K = true) : ∃ fd, FunD K d.name d.qual d.params d.body d.scope (d.dvs K) [] (d.adr K) fd := by
  obtain ⟨kp, c2⟩ := He.ba c
  unfold fnWA at e
  cases q : K.lookup (d.adr K) with
  | none => rw [q] at c2; cases c2
  | some o =>
    obtain ⟨oc, od, dt, osl⟩ := o
    rw [q] at c2 e
    cases dt with
    | func fd =>
      obtain ⟨n1, n2, n3, n4, n5, n6, n7, n8, n9, n10, n11, n12, n13, n14, n15⟩ := fd
      have e2 : (some (n1, n2, n3, n4, n5, n6, n7, n15) : He.FnW) = some (d.name, d.qual, d.params, .stmts d.body, d.scope, mainGlobals, [], builtinsNs) := e
      simp only [Option.some.injEq, Prod.mk.injEq] at e2
      obtain ⟨h1, h2, h3, h4, h5, h6, h7, h8⟩ := e2
      subst h1 h2 h3 h4 h5 h6 h7 h8
      obtain ⟨k1, k2⟩ := He.ba (show (PySem.W.codeIn K n13 d.qual && He.dflB K n8 (d.dvs K)) = true from c2)
      exact ⟨_, ⟨oc, od, n8, n9, n10, n11, n12, n13, n14, osl, rfl, q, k1, He.dflB_ok k2, .inl rfl⟩, kp⟩
    | _ => cases c2
abbrev AlX : Type := Bool × List He.FnW
def obsX (fx : List Fx) (fn : List DefA) (K : PySem.W.Frag) : AlX := ((fx.all fun f => f.ok K) && fn.all fun d => d.ok K, fn.map fun d => fnWA K (d.adr K))
def valX (fn : List DefA) : AlX := (true, fn.map DefA.val)
def SaysX (fx : List Fx) (fn : List DefA) (K : PySem.W.Frag) : Prop := obsX fx fn K = valX fn
def obsXG (n : Nat) (fx : List Fx) (fn : List DefA) (g : Addr → Option Obj) : AlX := obsX fx fn (He.frG g (He.asD g n))
def hookX (n : Nat) (fx : List Fx) (fn : List DefA) : PySem.W.Hook where
  α := AlX
  obs := fun s => obsXG n fx fn s.heap.get?
  val := fun _ => valX fn
  says := fun _ h => ∃ K : PySem.W.Frag, K.In h ∧ SaysX fx fn K
  of := fun _ _ e => ⟨_, He.frG_in, e⟩
  keeps := fun _ _ _ ⟨K, hK, c⟩ k => ⟨K, PySem.W.Frag.In.keeps hK k, c⟩
theorem obsXG_eq {n : Nat} {fx : List Fx} {fn : List DefA} {g : Addr → Option Obj} {s : Shared} (h : ∀ a, g a = s.heap.get? a) : obsXG n fx fn g = (hookX n fx fn).obs s := by
  have e : g = s.heap.get? := funext h
  rw [e] <;> rfl
section
variable {fx : List Fx} {fn : List DefA} {K : PySem.W.Frag}
theorem SaysX.fact (c : SaysX fx fn K) (i : Nat) {f : Fx} (h : fx[i]? = some f) : f.ok K = true := by
  have c1 := (He.ba (show ((fx.all fun f => f.ok K) && fn.all fun d => d.ok K) = true from congrArg (fun z : AlX => z.1) c)).1
  exact List.all_eq_true.mp c1 f (List.mem_of_getElem? h)
theorem SaysX.def_ (c : SaysX fx fn K) (i : Nat) {d : DefA} (h : fn[i]? = some d) : ∃ fd, FunD K d.name d.qual d.params d.body d.scope (d.dvs K) [] (d.adr K) fd := by
  have c2 := (He.ba (show ((fx.all fun f => f.ok K) && fn.all fun d => d.ok K) = true from congrArg (fun z : AlX => z.1) c)).2
  have e : fn.map (fun d => fnWA K (d.adr K)) = fn.map DefA.val := congrArg (fun z : AlX => z.2) c
  have e2 : (fn.map fun d => fnWA K (d.adr K))[i]? = (fn.map DefA.val)[i]? := by rw [e]
  rw [List.getElem?_map, List.getElem?_map, h] at e2
  exact DefA.funD (Option.some.inj e2) (List.all_eq_true.mp c2 d (List.mem_of_getElem? h))
end
/-! ### the law's end -/
theorem law_go {P : Program} {w : World} {K : PySem.W.Frag} {mg mb : Str → Option Value} {k : Nat} {fa a : Addr} {F : Fn} {s₁ : Shared} {vs : List Value} {ns : List Int}
    (KX : K.In s₁.heap) (hns : s₁.heap.Ns mainGlobals mg) (hb : s₁.heap.Ns builtinsNs mb) (hbb : ∀ x : Str, x ≠ "__name__" → mb x = bootBuiltins x) (hlim : s₁.heap.NoLimit) (hg : s₁.gens = #[])
    (ha : s₁.heap.get? a = some { cls := .type "list", data := .seq vs.toArray }) (hi : IntsAre vs ns) (hl : ns.length ≤ sizeLine) (hr : Room k callerA)
    (FF : ∀ base : Heap, K.In base → base.Ns mainGlobals mg → FnF P w K mg base k fa F) (ans : F [.rol (ns.map D.int)] [] = .ok (.bl true) [] ∨ ∃ m, F [.rol (ns.map D.int)] [] = .ok (.bl true) m) :
    codeAny (model P w) callerA (.call (.ref fa) ⟨[.ref a], []⟩) (fun r s' => r = .ok (.ret (.bool true)) ∧ OldK s₁.heap s'.heap ∧ s'.os = s₁.os ∧ AllBare s'.gens) s₁ := by
  have rv := vals_ints hi
  have lenV := hi.length
  have core : ∀ H : Hp, Only H → RolAt K (fun _ => False) [] H a (ns.map V.int) → HOk P w H s₁.heap → (∀ b, H b ≠ none → b = a) → (H a ≠ none → K.lookup a = none) →
      codeAny (model P w) callerA (.call (.ref fa) ⟨[.ref a], []⟩) (fun r s' => r = .ok (.ret (.bool true)) ∧ OldK s₁.heap s'.heap ∧ s'.os = s₁.os ∧ AllBare s'.gens) s₁ := by
    intro H hO hS hok hA hK
    have base_of : ∀ {b : Addr} {o : Obj}, s₁.heap.get? b = some o → H b = none → (hidT s₁.heap H).get? b = some o := fun e n => hidT_get e n
    have noA : ∀ {b : Addr} {o : Obj} {es : Array DictEntry} {ep : Nat}, s₁.heap.get? b = some o → o.data = .dict es ep → H b = none := fun {b o es ep} e d => by
      cases q : H b with
      | none => rfl
      | some u =>
        obtain rfl : b = a := hA b (by rw [q]; simp)
        rw [ha] at e; cases e
        cases (show Data.seq vs.toArray _ = Data.dict es ep from d)
    have nsK : ∀ {b : Addr} {m : Str → Option Value}, s₁.heap.Ns b m → (hidT s₁.heap H).Ns b m := fun {b m} ⟨o, es, ep, e, d, r⟩ => ⟨o, es, ep, base_of e (noA e d), d, r⟩
    have hKb : K.In (hidT s₁.heap H) := fun b o e => base_of (KX b o e) (by
      cases q : H b with
      | none => rfl
      | some u =>
        obtain rfl : b = a := hA b (by rw [q]; simp)
        rw [hK (by rw [q]; simp)] at e; cases e)
    have hM : Mod K mg (hidT s₁.heap H) := ⟨hKb, nsK hns, ⟨mb, nsK hb, hbb⟩, let ⟨mc, h1, h2⟩ := hlim; ⟨mc, nsK h1, h2⟩⟩
    have e0 : Env0 P w K mg (hidT s₁.heap H) callerA [] s₁ H := ⟨rfl, hM, fun b o e => of_hidT e, Nat.le_of_eq (hidT_size _ _), trivial, fun b hb => absurd (show b ∈ ([] : List Addr) from hb) (by simp), hok, .of_eq hg⟩
    obtain ⟨fd, ps, n, FG, hbd, hst⟩ := (FF _ hKb (nsK hns)).ex
    have hans : ∃ m, F [.rol (ns.map D.int)] [] = .ok (.bl true) m := ans.elim (fun e => ⟨_, e⟩) id
    obtain ⟨m1, em⟩ := hans
    have h1n : [D.rol (ns.map D.int)].length = n := by
      by_cases h : [D.rol (ns.map D.int)].length = n
      · exact h
      · rw [hst _ _ h] at em; cases em
    have hsp : spS K n F [.ref a] H (fun v _ => v = .bl true) (fun _ _ _ => False) := by
      refine ⟨fun _ => False, [], [], [.rol (ns.map D.int)], h1n, .empty (fun _ z => z.elim), .cons ?_ .nil, ?_⟩
      · rw [VR]
        exact ⟨a, _, rfl, hS, VRs.ints ns⟩
      · rw [em]
        exact fun v H' r' _ _ h => h.bl_inv
    have hlen : ([Value.ref a] ++ []).length = ps.length := by rw [← FG.len _ _ _ _ hsp]; rfl
    have hb' := hbd s₁ [.ref a] KX hlen
    refine codeAny_mono (FG.run callerA [] s₁ H ⟨[.ref a], []⟩ [.ref a] [.ref a] _ _ hr rfl e0 hb' (.cons rfl .nil) hsp) fun x s' h => ?_
    match x, h with
    | .error e, h =>
      obtain ⟨_, _, _, _, _, _, _, _, _, _, _, _, z⟩ := h
      exact z.elim
    | .ok .next, h => exact (show False from h).elim
    | .ok .brk, h => exact (show False from h).elim
    | .ok .cont, h => exact (show False from h).elim
    | .ok (.ret u), h =>
      obtain ⟨v, H', os, bare, un, hok', r', q⟩ := h
      have q' : v = .bl true := q
      subst q'
      obtain rfl : u = Value.bool true := r'
      refine ⟨rfl, OldK.of_keep fun b o e => ?_, os, bare⟩
      cases q : H b with
      | none => exact un.keep b o e q (by intro z; exact absurd (show b ∈ ([] : List Addr) from z) (by simp)) (by simp)
      | some u =>
        rcases hO b with z | ⟨ob, xs, z⟩
        · rw [q] at z; cases z
        · have z2 := un.frzs b ob _ z
          obtain ⟨e1, _⟩ := hok b _ z
          obtain ⟨e2, _⟩ := hok' b _ z2
          rw [e] at e1; cases e1
          exact e2
  cases hk : K.lookup a with
  | some o =>
    have e := KX a o hk
    rw [ha] at e
    cases e
    refine core (fun _ => none) (fun _ => .inl rfl) (.inr (.inr ⟨_, vs.toArray, _, hk, rfl, rfl, rfl, by rw [List.size_toArray, lenV]; exact hl, by simpa using rv⟩)) (fun b u z => by cases (show (none : Option HO) = some u from z)) (fun b z => absurd rfl z) fun z => absurd rfl z
  | none =>
    refine core (fun b => if b = a then some (.frz { cls := .type "list", data := .seq vs.toArray } (.lst (ns.map V.int))) else none) (fun b => ?_) (.inl ⟨.inr ⟨{ cls := .type "list", data := .seq vs.toArray }, if_pos rfl⟩, fun z => z.elim id (by simp)⟩) (fun b u z => ?_) (fun b z => ?_) fun _ => hk
    · by_cases hb : b = a
      · exact .inr ⟨_, _, if_pos hb⟩
      · exact .inl (if_neg hb)
    · by_cases hb : b = a
      · have z' := (if_pos hb).symm.trans z
        cases z'
        subst hb
        exact ⟨ha, by rw [List.length_map]; exact hl, vs, _, rv, ha⟩
      · cases (if_neg hb).symm.trans z
    · by_cases hb : b = a
      · exact hb
      · exact absurd (if_neg hb) z
/-- a law whose def answers True at every script -/
theorem walkG {l : PySem.W.OpenLaw} {n k : Nat} {q : Program} {loose : List Str} {XP : (Str → Option Value) → Heap → Prop} {YP : World → Heap → Prop} {d : DefRec}
    (hn : l.most = some n) (hn2 : n ≤ sizeLine) (hdf : d.params.defaults = []) (hr : Room k callerA)
    (F : ∀ (w : World) (mg : Str → Option Value) (fa : Addr) (h : Heap), YP w h → h.Ns mainGlobals mg → mg d.name = some (.ref fa) →
      ∃ (K : PySem.W.Frag) (F : Fn), K.In h ∧ (∀ base : Heap, K.In base → base.Ns mainGlobals mg → FnF l.prog w K mg base k fa F) ∧
        ∀ ns : List Int, ns.length ≤ n → (∀ z ∈ ns, Builtin.Int.intBits z ≤ 1048576) → ∃ m, F [.rol (ns.map D.int)] [] = .ok (.bl true) m) :
    PySem.W.WalkO q loose XP YP l.row.toRowW d [] (fun f vs => PySem.call f vs) := by
  refine Att.attach_callB hn hdf fun w s₀ s₁ mg mb fa o pm cd doc a vs ns G Y ho hd hcd hmg hobj hints hlen hbits hg => ?_
  obtain ⟨K, F, KX, hF, ans⟩ := F w mg fa _ Y G.T.g hmg
  exact law_go KX G.T.g G.T.b G.T.builtins G.T.nolimit hg hobj hints (Nat.le_trans hlen hn2) hr hF (.inr (ans ns hlen hbits))
end ME
set_option Elab.async false
set_option linter.all false
set_option maxRecDepth 100000
set_option maxHeartbeats 4000000
namespace ME
open PySem PySem.Spec PyProof.Rows L2
/-! ### a def as a function of trees alone -/
def seqO {α : Type} : List (Option α) → Option (List α)
  | [] => some []
  | some a :: l => (seqO l).map (a :: ·)
  | none :: _ => none
/-- the tree without its cells -/
def frz (m : Sto) : Nat → D → Option D
  | 0, _ => none
  | n + 1, d => if d.closed = true then some d else (match d with
    | .tup ds => (seqO (ds.map (frz m n))).map .tup
    | .lst ds => (seqO (ds.map (frz m n))).map .lst
    | .rol ds => (seqO (ds.map (frz m n))).map .rol
    | .obj c ns fs => (seqO (fs.map (frz m n))).map (.obj c ns)
    | .dct ks fs => (seqO (fs.map (frz m n))).map (.dct ks)
    | .ref k => (match m[k]? with
      | some (.lst ds) => (seqO (ds.map (frz m n))).map .lst
      | some (.ins c ns fs) => (seqO (fs.map (frz m n))).map (.obj c ns)
      | some (.dct ks fs) => (seqO (fs.map (frz m n))).map (.dct ks)
      | _ => none)
    | _ => none)
def frzs (m : Sto) (ds : List D) : Option (List D) := seqO (ds.map (frz m 12))
def pureF (F : Fn) : Fn := fun ds m => if D.closeds ds = true then (match F ds [] with
    | .ok d m1 => (match frz m1 12 d with
      | some e => .ok e m
      | none => .stuck)
    | .exc c es m1 => (match frzs m1 es with
      | some es' => .exc c es' m
      | none => .stuck)
    | .stuck => .stuck) else (match frzs m ds with
    | some es => (match F es [] with
      | .ok d _ => if d.flat = true then .ok d m else .stuck
      | .exc c es _ => if es.all D.flat = true then .exc c es m else .stuck
      | .stuck => .stuck)
    | none => .stuck)
section
variable {K : PySem.W.Frag} {Z Z' : PZ} {r r' : List Addr} {H : Hp} {m : Sto}
theorem seqO_ok {n : Nat} (f : ∀ d d' v, frz m n d = some d' → VR K Z r H d v → VR K Z' r' H d' v) : ∀ {ds es : List D} {xs : List V}, seqO (ds.map (frz m n)) = some es → VRs K Z r H ds xs → VRs K Z' r' H es xs
  | [], es, xs, e, h => by
    cases e
    rw [h.inv_nil]; exact .nil
  | d :: ds, es, xs, e, h => by
    obtain ⟨x, t, rfl, h1, h2⟩ := h.inv_cons
    rw [List.map_cons] at e
    cases q : frz m n d with
    | none => rw [q] at e; cases e
    | some d' =>
      rw [q, seqO] at e
      obtain ⟨es', e1, rfl⟩ := Option.map_eq_some_iff.mp e
      exact .cons (f d d' x q h1) (seqO_ok f e1 h2)
theorem frz_ok (s : SR K Z r H m) (hl : ∀ a, Held Z' r' a → Held Z r a) (hc : ∀ a ∈ r, ¬ Held Z' r' a) : ∀ (n : Nat) (d d' : D) (v : V), frz m n d = some d' → VR K Z r H d v → VR K Z' r' H d' v
  | 0, d, d', v, e, h => by cases e
  | n + 1, d, d', v, e, h => by
    have ih := fun {ds es : List D} {xs : List V} => seqO_ok (ds := ds) (es := es) (xs := xs) (frz_ok s hl hc n)
    unfold frz at e
    split at e
    · rename_i hcl
      cases e
      exact VR.loose ⟨hl⟩ _ hcl h
    · split at e
      · obtain ⟨es, e1, rfl⟩ := Option.map_eq_some_iff.mp e
        rw [VR] at h ⊢
        obtain ⟨a, xs, ev, ht, hs⟩ := h
        exact ⟨a, xs, ev, ht.elim (fun z => .inl ⟨z.1, fun q => z.2 (hl a q)⟩) .inr, ih e1 hs⟩
      · obtain ⟨es, e1, rfl⟩ := Option.map_eq_some_iff.mp e
        rw [VR] at h ⊢
        obtain ⟨a, xs, ev, ht, hs⟩ := h
        exact ⟨a, xs, ev, ⟨ht.1, fun q => ht.2 (hl a q)⟩, ih e1 hs⟩
      · obtain ⟨es, e1, rfl⟩ := Option.map_eq_some_iff.mp e
        rw [VR] at h ⊢
        obtain ⟨a, xs, ev, ht, hs⟩ := h
        exact ⟨a, xs, ev, ht.elim (fun z => .inl ⟨z.1, fun q => z.2 (hl a q)⟩) .inr, ih e1 hs⟩
      · obtain ⟨es, e1, rfl⟩ := Option.map_eq_some_iff.mp e
        rw [VR] at h ⊢
        obtain ⟨a, dx, xs, ev, ht, hn, hlen, hs⟩ := h
        exact ⟨a, dx, xs, ev, ht, fun q => hn (hl a q), hlen, ih e1 hs⟩
      · obtain ⟨es, e1, rfl⟩ := Option.map_eq_some_iff.mp e
        rw [VR] at h ⊢
        obtain ⟨a, xs, ev, ht, hn, hlen, hs⟩ := h
        exact ⟨a, xs, ev, ht, fun q => hn (hl a q), hlen, ih e1 hs⟩
      · obtain ⟨a, rfl, ha⟩ := h.ref_inv
        have hn := hc a (List.mem_of_getElem? ha)
        split at e
        · rename_i ds em
          obtain ⟨es, e1, rfl⟩ := Option.map_eq_some_iff.mp e
          obtain ⟨xs, h1, h2⟩ := s.cells _ _ a em ha
          rw [VR]
          exact ⟨a, xs, rfl, ⟨h1, hn⟩, ih e1 h2⟩
        · rename_i c ns fs em
          obtain ⟨es, e1, rfl⟩ := Option.map_eq_some_iff.mp e
          obtain ⟨dx, xs, h1, h2, h3⟩ := s.cells _ _ a em ha
          rw [VR]
          exact ⟨a, dx, xs, rfl, h1, hn, h2, ih e1 h3⟩
        · rename_i ks fs em
          obtain ⟨es, e1, rfl⟩ := Option.map_eq_some_iff.mp e
          obtain ⟨xs, h1, h2, h3⟩ := s.cells _ _ a em ha
          rw [VR]
          exact ⟨a, xs, rfl, h1, hn, h2, ih e1 h3⟩
        · cases e
      · cases e
theorem frzs_len : ∀ {ds es : List D}, frzs m ds = some es → es.length = ds.length := by
  unfold frzs
  intro ds
  induction ds with
  | nil => intro es e; cases e; rfl
  | cons d ds ih =>
    intro es e
    rw [List.map_cons] at e
    cases q : frz m 12 d with
    | none => rw [q] at e; cases e
    | some d' =>
      rw [q, seqO] at e
      obtain ⟨es', e1, rfl⟩ := Option.map_eq_some_iff.mp e
      rw [List.length_cons, List.length_cons, ih e1]
theorem VR.flatI {d : D} {v : V} (h : VR K Z r H d v) (f : d.flat = true) {H' : Hp} : VR K Z' r' H' d v := by
  cases d with
  | non => rw [h.non_inv]; exact .nonI
  | bl b => rw [h.bl_inv]; exact .blI
  | int b => rw [h.int_inv]; exact .intI
  | str b => rw [h.str_inv]; exact .strI
  | _ => cases f
theorem SR.later {H2 : Hp} {r2 : List Addr} (s : SR K Z r H m) (e : Ext [] H r2 H2) : Ext r H r H2 ∧ SR K Z r H2 m := by
  have e1 : Ext r H r H2 := ⟨⟨⟨[], by simp, fun a z => by cases z⟩, fun a o h _ => e.keep a o h (by simp), e.still⟩, e.fz⟩
  refine ⟨e1, s.len, s.nd, fun n c a q1 q2 => ?_, fun a z => e.still a (s.zt a z), s.zr⟩
  have q := s.cells n c a q1 q2
  refine q.to e1 ?_
  cases h : H a with
  | none => exact absurd h q.some
  | some o => exact e.keep a o h (by simp)
theorem spS_pure {n : Nat} {F : Fn} {vs : List V} {Q : VK} {E : XK} (h : spS K n (pureF F) vs H Q E) : spS K n F vs H Q E := by
  obtain ⟨Z, r, m, ds, hn, hs, hv, g⟩ := h
  unfold pureF at g
  split at g
  · rename_i hcl
    refine ⟨Held Z r, [], [], ds, hn, ⟨rfl, List.nodup_nil, fun n c a e => by simp at e, fun a z => z.elim (hs.zt a) hs.tracked, fun a z => by cases z⟩, VRs.loose ⟨fun a z => z.elim id fun z => by cases z⟩ ds hcl hv, ?_⟩
    have back : ∀ {r2 : List Addr} {H2 : Hp} {m1 : Sto}, Ext [] H r2 H2 → SR K (Held Z r) r2 H2 m1 → ∀ d d' v, frz m1 12 d = some d' → VR K (Held Z r) r2 H2 d v → VR K Z r H2 d' v := fun {r2 H2 m1} e2 s2 d d' v e h =>
      frz_ok s2 (fun a z => .inl z) (fun a ha z => s2.zr a ha z) 12 d d' v e h
    cases q : F ds [] with
    | ok d m1 =>
      rw [q] at g
      intro v H2 r2 e2 s2 h2
      dsimp only at g
      split at g
      · rename_i d' ed
        obtain ⟨e3, s3⟩ := hs.later e2
        exact g v H2 r e3 s3 (back e2 s2 _ _ _ ed h2)
      · exact g.elim
    | exc c es m1 =>
      rw [q] at g
      intro C o H2 r2 e2 s2 h2
      dsimp only at g
      split at g
      · rename_i es' ee
        obtain ⟨e3, s3⟩ := hs.later e2
        refine g C o H2 r e3 s3 ⟨h2.1, fun d' hd => ?_⟩
        subst hd
        have hlen := frzs_len ee
        match es, hlen, ee, h2 with
        | [d], _, ee, h2 =>
          unfold frzs at ee
          rw [List.map_cons, List.map_nil] at ee
          cases q2 : frz m1 12 d with
          | none => rw [q2] at ee; cases ee
          | some d2 =>
            rw [q2, seqO, seqO] at ee
            cases ee
            obtain ⟨dx, v, h3, h4, h5⟩ := h2.2 d rfl
            exact ⟨dx, v, h3, h4, back e2 s2 _ _ _ q2 h5⟩
      · exact g.elim
    | stuck => rw [q] at g; exact g.elim
  · split at g
    · rename_i es ee
      refine ⟨Z, [], [], es, (frzs_len ee).trans hn, ⟨rfl, List.nodup_nil, fun n c a e => by simp at e, hs.zt, fun a z => by cases z⟩, ?_, ?_⟩
      · unfold frzs at ee
        exact seqO_ok (frz_ok hs (fun a z => z.elim .inl fun z => by cases z) (fun a ha z => z.elim (hs.zr a ha) fun z => by cases z) 12) ee hv
      · cases q : F es [] with
        | ok d m1 =>
          rw [q] at g
          intro v H2 r2 e2 s2 h2
          dsimp only at g
          split at g
          · rename_i hf
            obtain ⟨e3, s3⟩ := hs.later e2
            exact g v H2 r e3 s3 (h2.flatI hf)
          · exact g.elim
        | exc c es m1 =>
          rw [q] at g
          intro C o H2 r2 e2 s2 h2
          dsimp only at g
          split at g
          · rename_i hf
            obtain ⟨e3, s3⟩ := hs.later e2
            refine g C o H2 r e3 s3 ⟨h2.1, fun d' hd => ?_⟩
            subst hd
            obtain ⟨dx, v, h3, h4, h5⟩ := h2.2 d' rfl
            exact ⟨dx, v, h3, h4, h5.flatI (by simpa using hf)⟩
          · exact g.elim
        | stuck => rw [q] at g; exact g.elim
    · exact g.elim
end
section
variable {P : Program} {w : World} {K : PySem.W.Frag} {mg : Str → Option Value} {base : Heap} {k : Nat} {f : Addr} {F : Fn}
theorem FnF.pure (h : FnF P w K mg base k f F) : FnF P w K mg base k f (pureF F) := by
  obtain ⟨⟨fd, ps, n, h1, h2, h3⟩, h4⟩ := h
  refine ⟨⟨fd, ps, n, h1.imp fun vs H Q E q => spS_pure q, h2, fun ds m hl => ?_⟩, h4⟩
  unfold pureF
  split
  · rw [h3 ds [] hl]
  · split
    · rename_i es ee
      rw [h3 es [] (by rw [frzs_len ee]; exact hl)]
    · rfl
end
end ME
set_option Elab.async false
set_option linter.all false
set_option maxRecDepth 100000
set_option maxHeartbeats 4000000
namespace ME
open PySem PySem.Spec PyProof.Rows L2
/-! ### from a head's facts to what the trees ask -/
section
variable {P : Program} {w : World} {K : PySem.W.Frag} {mg : Str → Option Value} {base : Heap} {A : Around}
theorem glo_int {x : Str} {i : Int} (h : ∃ t, mg x = some (.int i t)) : GloOk ⟨P, w, K, mg, base, A⟩ x (.int i) := let ⟨t, e⟩ := h; ⟨rfl, .int i, .int i t, e, ⟨t, rfl⟩, fun _ _ _ => .intI⟩
theorem glo_str {x : Str} {i : Str} (h : ∃ t, mg x = some (.str i t)) : GloOk ⟨P, w, K, mg, base, A⟩ x (.str i) := let ⟨t, e⟩ := h; ⟨rfl, .str i, .str i t, e, ⟨t, rfl⟩, fun _ _ _ => .strI⟩
theorem isi_bi {n : String} {cs : List Str} (h1 : mg "isinstance" = none) (h2 : mg (Str.ofString n) = none) (h3 : bootBuiltins (Str.ofString n) = some (.type n)) (h4 : ∀ c ∈ cs, InsTy K (He.ga K c) ∧ PySem.W.kitOne K (.ref (He.ga K c)) (.type n) = some false) :
    IsiOk ⟨P, w, K, mg, base, A⟩ (.bi n) cs := ⟨h1, h2, h3, h4⟩
theorem isi_own {c0 : Str} {cs : List Str} (h1 : mg "isinstance" = none) (h2 : mg c0 = some (.ref (He.ga K c0))) (h3 : ∀ u ∈ (["NoneType", "bool", "int", "str", "tuple", "list", "dict"] : List String), PySem.W.kitOne K (.type u) (.ref (He.ga K c0)) = some false)
    (h4 : ∀ c ∈ cs, InsTy K (He.ga K c) ∧ PySem.W.kitOne K (.ref (He.ga K c)) (.ref (He.ga K c0)) = some (decide (c = c0))) : IsiOk ⟨P, w, K, mg, base, A⟩ (.own c0) cs := ⟨h1, h2, h3, h4⟩
theorem boot_int : bootBuiltins (Str.ofString "int") = some (.type "int") := PyProof.Rows.boot_int
theorem boot_str : bootBuiltins (Str.ofString "str") = some (.type "str") := PyProof.Rows.boot_str
theorem boot_tuple : bootBuiltins (Str.ofString "tuple") = some (.type "tuple") := PyProof.Rows.boot_tuple
theorem boot_list : bootBuiltins (Str.ofString "list") = some (.type "list") := PyProof.Rows.boot_list
theorem boot_bool : bootBuiltins (Str.ofString "bool") = some (.type "bool") := by decide +kernel
theorem FnF.prp {k j : Nat} {c m : Str} {f : Addr} {p : Addr} {F : Fn} (h : FnF P w K mg base k f F) (hc : Cls K (He.ga K c)) (hp : PropOf K (He.ga K c) m p f) (hr : Room j A) (hj : k + 1 ≤ j) (nx : ∀ ds s c' es s', F ds s ≠ .exc c' es s') : PrpOk ⟨P, w, K, mg, base, A⟩ c m F :=
  ⟨p, f, hc, hp, h.at0 (hr.mono hj), nx⟩
theorem evFld_nx {c f : Str} {d : D} {m : Sto} {c' : Str} {es : List D} {m' : Sto} : evFld c f d m ≠ .exc c' es m' := by
  unfold evFld
  split
  · split
    · split <;> (intro h; cases h)
    · intro h; cases h
  · intro h; cases h
theorem getter_nx {k nN i : Nat} {c f : Str} : ∀ ds s c' es s', runF k 1 nN [.ret (.fld c (.var i) f)] ds s ≠ .exc c' es s' := by
  intro ds s c' es s'
  unfold runF
  split
  · generalize (ds.map some ++ List.replicate (nN - 1) none) = δ
    have key : ∀ c2 es2 d2 m2, exs k [.ret (.fld c (.var i) f)] δ s ≠ .exc c2 es2 d2 m2 := by
      intro c2 es2 d2 m2 h2
      have e : exs k [.ret (.fld c (.var i) f)] δ s = (((match δ[i]? with
        | some (some v) => Res.ok v s
        | _ => .stuck).bind fun x m1 => evFld c f x m1).then δ fun v m1 => SRes.ok (.ret v) δ m1).thn fun d1 m1 => .ok .nx d1 m1 := rfl
      rw [e] at h2
      cases q : δ[i]? with
      | none => rw [q] at h2; cases h2
      | some o =>
        cases o with
        | none => rw [q] at h2; cases h2
        | some v =>
          rw [q] at h2
          have h3 : (((evFld c f v s).then δ fun v m1 => SRes.ok (.ret v) δ m1).thn fun d1 m1 => .ok .nx d1 m1) = .exc c2 es2 d2 m2 := h2
          generalize hq : evFld c f v s = r at h3
          cases r with
          | ok d m1 => cases h3
          | exc c2 es2 m2 => exact evFld_nx hq
          | stuck => cases h3
    intro h
    split at h
    · cases h
    · cases h
    · rename_i hq; exact key _ _ _ _ hq
    · cases h
  · intro h; cases h
theorem kw_bind {x qual : Str} {params : Arguments} {body : List Stmt} {scope : Scope} {f : Addr} {fd : FuncData} {ps ks : List Str} {perm : List Nat} (F : FunD K x qual params body scope [] [] f fd)
    (h : ∀ (kV doc pm : Value) (an : Option Addr) (cdv ct : Value) (ws : List Value), ws.length = ks.length → bindArgs (PySem.W.fnOf x qual params body scope .none kV doc pm an cdv ct) ⟨[], ks.zip ws⟩ = pure (ps.zip (pick perm ws))) :
    ∀ (s : Shared) (ws : List Value), ws.length = ks.length → BindsTo s fd ⟨[], ks.zip ws⟩ (ps.zip (pick perm ws)) := by
  obtain ⟨oc, od, dV, kV, doc, pm, an, cdv, ct, osl, rfl, lk, hcd, hD, hK⟩ := F.ex
  intro s ws hl
  rcases hD with ⟨_, rfl⟩ | ⟨e, _⟩
  · exact .of_eq (h kV doc pm an cdv ct ws hl)
  · exact absurd rfl e
theorem FnG.callK {k j nN fuel : Nat} {x : Str} {f : Addr} {fd : FuncData} {ps ks : List Str} {perm : List Nat} {body : List Sm} (G : FnG P w K mg base k f fd ps (spS K ps.length (runF fuel ps.length nN body))) (hk : PySem.W.keepIn K (.ref f) = true) (hx : mg x = some (.ref f)) (hp : ∀ i ∈ perm, i < ks.length)
    (hb : ∀ (s : Shared) (ws : List Value), ws.length = ks.length → BindsTo s fd ⟨[], ks.zip ws⟩ (ps.zip (pick perm ws))) (hr : Room j A) (hj : k + 1 ≤ j) : CallKOk ⟨P, w, K, mg, base, A⟩ x (runF fuel ps.length nN body) ks perm :=
  ⟨f, fd, ps, ps.length, k, hx, hk, G, hr.mono hj, hp, hb, fun ds m h => by unfold runF; rw [if_neg h]⟩
theorem FnG.newD {k j nN fuel : Nat} {c : Str} {f : Addr} {fd : FuncData} {ps : List Str} {body : List Sm} {dd : List D} {dvs : List V} {ds : List Value} (G : FnG P w K mg base k f fd ps (spS K ps.length (runF fuel ps.length nN body))) (hb : Binds K fd ps ds) (hd : Vals dvs ds) (hv : ∀ Z r H, VRs K Z r H dd dvs)
    (hx : mg c = some (.ref (He.ga K c))) (hm : Mk K (He.ga K c) f) (hr : Room j A) (hj : k + 1 ≤ j) : NewOk ⟨P, w, K, mg, base, A⟩ c (fun es m => runF fuel ps.length nN body (es ++ dd) m) :=
  ⟨f, hx, hm, G.at hb hd hv (fun ds m h => by unfold runF; rw [if_neg h]) (hr.mono hj)⟩
end
end ME
set_option Elab.async false
set_option linter.all false
set_option maxRecDepth 100000
set_option maxHeartbeats 4000000
namespace ME
open PySem PySem.Spec PyProof.Rows L2
/-! ### words for going through a tree by simp -/
section
variable {α : Type} {m m1 : Sto} {δ d1 : Env} {f : Env → Sto → SRes} {d e v : D} {a b : Bool} {i j k : Int} {x y : Str} {ds es : List D} {n : Nat}
@[simp] theorem then_ok {r : α} {g : α → Sto → SRes} : (Res.ok r m).then δ g = g r m := rfl
@[simp] theorem then_exc {c : Str} {g : α → Sto → SRes} : (Res.exc c es m).then δ g = .exc c es δ m := rfl
@[simp] theorem then_stuck {g : α → Sto → SRes} : (Res.stuck : Res α).then δ g = .stuck := rfl
@[simp] theorem thn_nx : (SRes.ok .nx δ m).thn f = f δ m := rfl
@[simp] theorem thn_bk : (SRes.ok .bk δ m).thn f = .ok .bk δ m := rfl
@[simp] theorem thn_ct : (SRes.ok .ct δ m).thn f = .ok .ct δ m := rfl
@[simp] theorem thn_ret : (SRes.ok (.ret d) δ m).thn f = .ok (.ret d) δ m := rfl
@[simp] theorem thn_exc {c : Str} : (SRes.exc c es δ m).thn f = .exc c es δ m := rfl
@[simp] theorem thn_stuck : SRes.stuck.thn f = .stuck := rfl
@[simp] theorem nox_ok' {r : α} : (Res.ok r m).nox = .ok r m := rfl
@[simp] theorem nox_stuck' : (Res.stuck : Res α).nox = .stuck := rfl
@[simp] theorem nox_exc' {c : Str} : (Res.exc c es m : Res α).nox = .stuck := rfl
@[simp] theorem tru_bl : evTru (.bl a) m = .ok a m := rfl
@[simp] theorem tru_int : evTru (.int i) m = .ok (i != 0) m := rfl
@[simp] theorem tru_tup : evTru (.tup ds) m = .ok (!ds.isEmpty) m := rfl
@[simp] theorem tru_lst : evTru (.lst ds) m = .ok (!ds.isEmpty) m := rfl
@[simp] theorem tru_non : evTru .non m = .ok false m := rfl
@[simp] theorem add_ii : evBin .Add (.int i) (.int j) m = .ok (.int (i + j)) m := rfl
@[simp] theorem add_ss : evBin .Add (.str x) (.str y) m = if x.length + y.length ≤ 16777216 then .ok (.str (x ++ y)) m else .stuck := rfl
@[simp] theorem add_tt : evBin .Add (.tup ds) (.tup es) m = if ds.length + es.length ≤ 16777216 then .ok (.tup (ds ++ es)) m else .stuck := rfl
@[simp] theorem add_ll : evBin .Add (.lst ds) (.lst es) m = if ds.length + es.length ≤ 16777216 then .ok (.lst (ds ++ es)) m else .stuck := rfl
@[simp] theorem sub_ii : evBin .Sub (.int i) (.int j) m = .ok (.int (i - j)) m := rfl
theorem mul_ii : evBin .Mult (.int i) (.int j) m = if (-(2 ^ 64) < i ∧ i < 2 ^ 64) ∨ (-(2 ^ 64) < j ∧ j < 2 ^ 64) then .ok (.int (i * j)) m else
      if i.natAbs.log2 + j.natAbs.log2 < 1000000 then .ok (.int (i * j)) m else .stuck := rfl
theorem fdiv_ii : evBin .FloorDiv (.int i) (.int j) m = if 0 < j ∧ j.natAbs.log2 < 9000 then .ok (.int (i / j)) m else .stuck := rfl
theorem mod_ii : evBin .Mod (.int i) (.int j) m = if 0 < j then .ok (.int (i % j)) m else .stuck := rfl
theorem pow_ii : evBin .Pow (.int i) (.int j) m = if 0 ≤ j ∧ j ≤ 1000000 ∧ i.natAbs < 2 ^ 64 then .ok (.int (i ^ j.toNat)) m else .stuck := rfl
theorem mul_l (h : -18446744073709551616 < i ∧ i < 18446744073709551616) : evBin .Mult (.int i) (.int j) m = .ok (.int (i * j)) m := by
  rw [mul_ii, if_pos (.inl (by omega))]
theorem mul_r (h : -18446744073709551616 < j ∧ j < 18446744073709551616) : evBin .Mult (.int i) (.int j) m = .ok (.int (i * j)) m := by
  rw [mul_ii, if_pos (.inr (by omega))]
theorem fdiv_ok (h : 0 < j) (h2 : j.natAbs.log2 < 9000) : evBin .FloorDiv (.int i) (.int j) m = .ok (.int (i / j)) m := by rw [fdiv_ii, if_pos ⟨h, h2⟩]
theorem mod_ok (h : 0 < j) : evBin .Mod (.int i) (.int j) m = .ok (.int (i % j)) m := by rw [mod_ii, if_pos h]
theorem pow_ok (h : 0 ≤ j ∧ j ≤ 1000000 ∧ i.natAbs < 2 ^ 64) : evBin .Pow (.int i) (.int j) m = .ok (.int (i ^ j.toNat)) m := by rw [pow_ii, if_pos h]
theorem divmod_ok (h : 0 < j) (h2 : j.natAbs.log2 < 9000) : evBf .divmod [.int i, .int j] m = .ok (.tup [.int (i / j), .int (i % j)]) m := by
  show (if 0 < j ∧ j.natAbs.log2 < 9000 then _ else _) = _
  rw [if_pos ⟨h, h2⟩]
@[simp] theorem lt_ii : evCmp .Lt (.int i) (.int j) m = .ok (.bl (decide (i < j))) m := rfl
@[simp] theorem le_ii : evCmp .LtE (.int i) (.int j) m = .ok (.bl (decide (i ≤ j))) m := rfl
@[simp] theorem gt_ii : evCmp .Gt (.int i) (.int j) m = .ok (.bl (decide (j < i))) m := rfl
@[simp] theorem ge_ii : evCmp .GtE (.int i) (.int j) m = .ok (.bl (decide (j ≤ i))) m := rfl
@[simp] theorem eq_ii : evCmp .Eq (.int i) (.int j) m = .ok (.bl (i == j)) m := rfl
@[simp] theorem ne_ii : evCmp .NotEq (.int i) (.int j) m = .ok (.bl (!(i == j))) m := rfl
@[simp] theorem eq_ss : evCmp .Eq (.str x) (.str y) m = .ok (.bl (x == y)) m := rfl
@[simp] theorem ne_ss : evCmp .NotEq (.str x) (.str y) m = .ok (.bl (!(x == y))) m := rfl
@[simp] theorem is_nn : evCmp .Is .non .non m = .ok (.bl true) m := rfl
@[simp] theorem is_in : evCmp .Is (.int i) .non m = .ok (.bl false) m := rfl
@[simp] theorem is_sn : evCmp .Is (.str x) .non m = .ok (.bl false) m := rfl
@[simp] theorem is_tn : evCmp .Is (.tup ds) .non m = .ok (.bl false) m := rfl
@[simp] theorem isn_nn : evCmp .IsNot .non .non m = .ok (.bl false) m := rfl
@[simp] theorem isn_in : evCmp .IsNot (.int i) .non m = .ok (.bl true) m := rfl
@[simp] theorem isn_sn : evCmp .IsNot (.str x) .non m = .ok (.bl true) m := rfl
@[simp] theorem isn_tn : evCmp .IsNot (.tup ds) .non m = .ok (.bl true) m := rfl
def ofO (o : Option D) (m : Sto) : Res D := match o with
  | some v => .ok v m
  | none => .stuck
@[simp] theorem ofO_some : ofO (some v) m = .ok v m := rfl
@[simp] theorem ofO_none : ofO none m = .stuck := rfl
@[simp] theorem idx_tup : evIdx (.tup ds) (.int k) m = ofO (atI ds k) m := rfl
@[simp] theorem idx_lst : evIdx (.lst ds) (.int k) m = ofO (atI ds k) m := rfl
@[simp] theorem idx_rol : evIdx (.rol ds) (.int k) m = ofO (atI ds k) m := rfl
theorem idx_ref (h : m[n]? = some (.lst ds)) : evIdx (.ref n) (.int k) m = ofO (atI ds k) m := by
  show (match seqOf m (.ref n) with
      | some ds => (match atI ds k with
        | some v => Res.ok v m
        | none => .stuck)
      | none => .stuck) = _
  have : seqOf m (.ref n) = some ds := by
    show (match m[n]? with | some (Cell.lst ds) => some ds | _ => none) = _
    rw [h]
  rw [this]; rfl
theorem atN {l : List D} {i : Nat} {k : Int} (h : l[i]? = some d) (hk : k = (i : Nat)) : atI l k = some d := by
  have hl := (List.getElem?_eq_some_iff.mp h).1
  subst hk
  unfold atI ixN
  rw [if_pos (by omega), if_pos (by omega)]
  simpa using h
theorem at0 {l : List D} : atI (d :: l) 0 = some d := atN (i := 0) rfl rfl
theorem at1 {l : List D} {d0 : D} : atI (d0 :: d :: l) 1 = some d := atN (i := 1) rfl rfl
theorem at2 {l : List D} {d0 d1 : D} : atI (d0 :: d1 :: d :: l) 2 = some d := atN (i := 2) rfl rfl
theorem at3 {l : List D} {d0 d1 d2 : D} : atI (d0 :: d1 :: d2 :: d :: l) 3 = some d := atN (i := 3) rfl rfl
theorem sub_ref {j : Nat} (h : m[n]? = some (.lst ds)) (hj : j < ds.length) (hk : k = (j : Nat)) : evSub (.ref n) (.int k) v m = some (m.set n (.lst (ds.set j v))) := by
  have e1 : cellL m n = some ds := by unfold cellL; rw [h]
  have e2 : ixN ds.length k = some j := by
    subst hk
    unfold ixN
    rw [if_pos (by omega), if_pos (by omega)]
    simp
  show (match cellL m n with
    | some es => (match ixN es.length k with
      | some j => some (m.set n (.lst (es.set j v)))
      | none => none)
    | none => none) = _
  rw [e1]
  show (match ixN ds.length k with
      | some j => some (m.set n (.lst (ds.set j v)))
      | none => none) = _
  rw [e2]
@[simp] theorem optRes_some : optRes (some m) δ = .ok δ m := rfl
@[simp] theorem len_lst : evBf .len [.lst ds] m = .ok (.int ds.length) m := rfl
@[simp] theorem len_tup : evBf .len [.tup ds] m = .ok (.int ds.length) m := rfl
@[simp] theorem len_rol : evBf .len [.rol ds] m = .ok (.int ds.length) m := rfl
@[simp] theorem len_str : evBf .len [.str x] m = if x.length ≤ 16777216 then .ok (.int x.length) m else .stuck := rfl
@[simp] theorem int_int : evBf .int [.int i] m = .ok (.int i) m := rfl
@[simp] theorem abs_int : evBf .abs [.int i] m = .ok (.int (if i < 0 then -i else i)) m := rfl
@[simp] theorem max_ii : evBf .max2 [.int i, .int j] m = .ok (.int (if j > i then j else i)) m := rfl
@[simp] theorem min_ii : evBf .min2 [.int i, .int j] m = .ok (.int (if j < i then j else i)) m := rfl
theorem divmod_ii : evBf .divmod [.int i, .int j] m = if 0 < j ∧ j.natAbs.log2 < 9000 then .ok (.tup [.int (i / j), .int (i % j)]) m else .stuck := rfl
@[simp] theorem tuple_lst : evBf .tuple [.lst ds] m = .ok (.tup ds) m := rfl
@[simp] theorem str_int : evBf .str [.int i] m = if i.natAbs.log2 < 1920 then .ok (.str (toString i)) m else .stuck := rfl
end
end ME
set_option Elab.async false
set_option linter.all false
set_option maxRecDepth 100000
set_option maxHeartbeats 4000000
namespace ME
open PySem PySem.Spec PyProof.Rows L2
/-! ### a law's last row: all([right(purse(script, k)) for k in range(max(2, min(len(script), n)))]) -/
theorem lc_true {chk : Sto → Bool} {ft : D → Sto → Res ME.Env} {fb : ME.Env → Sto → Res Bool} {fe : ME.Env → Sto → Res D} (hc : ∀ m, chk m = true) :
    ∀ (l acc : List D) (m : Sto), (∀ d ∈ l, ∀ m, ∃ e m', ft d m = .ok e m ∧ fb e m = .ok true m ∧ fe e m = .ok (.bl true) m') → acc.length + l.length ≤ 1000000 →
      ∃ m', lcLoop chk ft fb fe l acc m = .ok (.lst (acc ++ l.map fun _ => D.bl true)) m'
  | [], acc, m, _, _ => ⟨m, by simp [lcLoop, hc]⟩
  | d :: l, acc, m, h, hl => by
    obtain ⟨e, m1, e1, e2, e3⟩ := h d (by simp) m
    have : acc.length < 1000000 := by simp at hl; omega
    obtain ⟨m2, ih⟩ := lc_true hc l (acc ++ [.bl true]) m1 (fun d' hd => h d' (by simp [hd])) (by simp at hl ⊢; omega)
    exact ⟨m2, by simp [lcLoop, hc, e1, e2, e3, this, Res.nox, Res.bind, ih]⟩
def elL (x y : Str) (FR FP : Fn) : Ex := .call x FR (.cons (.call y FP (.cons (.var 0) (.cons (.var 1) .nil))) .nil)
def itL (n : Int) : ME.Itr := .rng1 (.bf .max2 (.cons (.int 2) (.cons (.bf .min2 (.cons (.bf .len (.cons (.var 0) .nil)) (.cons (.int n) .nil))) .nil)))
def exL (x y v : Str) (FR FP : Fn) (n : Int) : Ex := .lc (elL x y FR FP) (.name 1) (itL n) .nil [(v, 1)]
def stL (x y v : Str) (FR FP : Fn) (n : Int) : List Sm := [.ret (.bf .all (.cons (exL x y v FR FP n) .nil))]
theorem asBls_map : ∀ bs : List Bool, asBls (bs.map D.bl) = some bs
  | [] => rfl
  | b :: bs => by simp [asBls, asBls_map bs]
theorem ev_all1 {e : Ex} {ds : List D} {bs : List Bool} {δ : Env} {m m' : Sto} (h : ev e δ m = .ok (.lst (bs.map D.bl)) m') : ev (.bf .all (.cons e .nil)) δ m = .ok (.bl (bs.all id)) m' := by
  have e1 : ev (.bf .all (.cons e .nil)) δ m = ((ev e δ m).bind fun x m1 => (Res.ok [x] m1)).bind fun vs m1 => evBf .all vs m1 := by
    simp only [ev, evs, Res.bind]
  rw [e1, h]
  show (match (lstOfR m' (.lst (bs.map D.bl))).bind asBls with
    | some bs => Res.ok (D.bl (bs.all id)) m'
    | none => .stuck) = _
  show (match asBls (bs.map D.bl) with
    | some bs => Res.ok (D.bl (bs.all id)) m'
    | none => .stuck) = _
  rw [asBls_map]
theorem law_gen {x y v : Str} {FR FP : Fn} {N fuel : Nat} (hN : N ≤ 1000) {ns : List Int}
    (h : ∀ k < max 2 N, ∀ m, ∃ p m1 m2, FP [.rol (ns.map D.int), .int (k : Nat)] m = .ok p m1 ∧ FR [p] m1 = .ok (.bl true) m2) :
    ∃ m, runF fuel 1 2 (stL x y v FR FP N) [.rol (ns.map D.int)] [] = .ok (.bl true) m := by
  obtain ⟨w, hw, hwN⟩ : ∃ w : Nat, (if (if (N : Int) < (ns.length : Nat) then (N : Int) else (ns.length : Nat)) > 2 then (if (N : Int) < (ns.length : Nat) then (N : Int) else (ns.length : Nat)) else 2) = (w : Nat) ∧ w ≤ max 2 N := by
    by_cases a : (N : Int) < (ns.length : Nat)
    · by_cases b : (N : Int) > 2
      · exact ⟨N, by simp [a, b], by omega⟩
      · exact ⟨2, by simp [a, b], by omega⟩
    · by_cases b : ((ns.length : Nat) : Int) > 2
      · exact ⟨ns.length, by simp [a, b], by omega⟩
      · exact ⟨2, by simp [a, b], by omega⟩
  obtain ⟨m', e⟩ := lc_true (chk := fun _ => true) (ft := fun v m => asgn (.name 1) v (wipeE [some (.rol (ns.map D.int)), none] [1]) m) (fb := fun e m => evIfs .nil e m)
    (fe := fun e m => ev (elL x y FR FP) e m) (fun _ => rfl) (rangeD 0 w) [] [] (fun d hd m => by
      obtain ⟨k, hk, rfl⟩ := List.mem_map.mp hd
      have hk' : k < max 2 N := Nat.lt_of_lt_of_le (List.mem_range.mp hk) hwN
      obtain ⟨p, m1, m2, e1, e2⟩ := h k hk' m
      refine ⟨[some (.rol (ns.map D.int)), some (.int k)], m2, by simp [asgn, wipeE], rfl, ?_⟩
      simp [elL, ev, evs, Res.bind, e1, e2]) (by simp [rangeD]; omega)
  have e5 : evIt (itL N) [some (.rol (ns.map D.int)), none] [] = .ok ⟨rangeD 0 w, none⟩ [] := by
    have h1 : -(2 : Int) ^ 62 ≤ (w : Int) ∧ (w : Int) < 2 ^ 62 := by omega
    have e0 : ev (.bf .max2 (.cons (.int 2) (.cons (.bf .min2 (.cons (.bf .len (.cons (.var 0) .nil)) (.cons (.int N) .nil))) .nil))) [some (.rol (ns.map D.int)), none] [] = .ok (.int w) [] := by
      simpa [ev, evs, Res.bind] using hw
    simp only [itL, evIt, e0, Res.bind]
    rw [if_pos h1]; rfl
  have e6 : ev (exL x y v FR FP N) [some (.rol (ns.map D.int)), none] [] = .ok (.lst (((rangeD 0 w).map fun _ => true).map D.bl)) m' := by
    have e7 : ev (exL x y v FR FP N) [some (.rol (ns.map D.int)), none] [] = (evIt (itL N) [some (.rol (ns.map D.int)), none] []).bind fun items m1 =>
        lcLoop items.chk (fun v m => asgn (.name 1) v (wipeE [some (.rol (ns.map D.int)), none] [1]) m) (fun e m => evIfs .nil e m) (fun e m => ev (elL x y FR FP) e m) items.ds [] m1 := by
      unfold exL; rw [ev]; rfl
    rw [e7, e5]
    refine e.trans ?_
    rw [List.map_map]; rfl
  refine ⟨m', ?_⟩
  have e8 := ev_all1 (ds := []) e6
  have e9 : (((rangeD 0 w).map fun _ => true).all id) = true := by simp
  rw [e9] at e8
  have e11 : exs fuel (stL x y v FR FP N) [some (.rol (ns.map D.int)), none] [] = .ok (.ret (.bl true)) [some (.rol (ns.map D.int)), none] m' := by
    unfold stL
    rw [exs, ex]
    simp only [e8]
    rfl
  simp [runF, e11]
end ME
set_option Elab.async false
set_option linter.all false
set_option maxRecDepth 100000
set_option maxHeartbeats 4000000
namespace ME
open PySem PySem.Spec PyProof.Rows L2
/-! ### forms told by their parts -/
def evL : List (Env → Sto → Res D) → Env → Sto → Res (List D)
  | [] => fun _ m => .ok [] m
  | f :: fl => fun d m => (f d m).bind fun x m1 => (evL fl d m1).bind fun xs m2 => .ok (x :: xs) m2
theorem evL_evl : ∀ (es : Exs) (d : Env) (m : Sto), evL (evl es) d m = evs es d m
  | .nil, d, m => by rw [evl, evL, evs]
  | .cons e es, d, m => by
    rw [evl, evL, evs]
    simp only [evL_evl es]
section
variable {X : Cx} {W : WX} {N : List Str} {sc : Scope}
theorem pa_of : ∀ {l : List PySem.Expr} {fl : List (Env → Sto → Res D)}, PEs X W l fl → (∀ e ∈ l, notStar e = true) → PA X l (tA X.K W (evL fl))
  | [], [], _, _ => r_nil
  | [], _ :: _, h, _ => h.elim
  | _ :: _, [], h, _ => h.elim
  | e :: l, f :: fl, h, hs => r_cons h.1 (pa_of h.2 fun x hx => hs x (List.mem_cons_of_mem _ hx)) (hs e List.mem_cons_self)
def noStars : List PySem.Expr → Bool := fun l => l.all notStar
theorem noStars_ok {l : List PySem.Expr} (h : noStars l = true) : ∀ e ∈ l, notStar e = true := List.all_eq_true.mp h
/-! #### C(..), the new instance frozen -/
def newS (c : Str) : Scope → PySem.Expr → Option (List PySem.Expr)
  | sc, .Call (.Name x _) es [] _ => if (decide (x = c) && (gloB sc x && noStars es)) = true then some es else none
  | _, _ => none
def newG (c : Str) (F : Fn) : Gn := ⟨newS c, fun fl d m => (evL fl d m).bind fun vs m1 => pureF (fun ds m => evNew c F ds m) vs m1⟩
theorem newG_ok {g : Gw} {c : Str} {F : Fn} (ok : NewOk g c F) : GenOk g (newG c F) := by
  intro X W N sc hg S e l hl fl hf
  subst hg
  have hl : newS c sc e = some l := hl
  unfold newS at hl
  split at hl
  · rename_i x p es pos hq
    split at hl
    · rename_i hc
      cases hl
      rw [Bool.and_eq_true, Bool.and_eq_true] at hc
      obtain ⟨h1, h2, h3⟩ := hc
      obtain rfl := of_decide_eq_true h1
      obtain ⟨f, hm, M, A⟩ := ok
      have hs := noStars_ok h3
      refine ⟨fun pins s σ H Q I h => ?_⟩
      refine wpAny_Call_Name_kw (ld_glob I (S.gl h2) hm ?_ (glo_of h2).2.1)
      have conv : ∀ {H1 : Hp} {vs : List V} {Q : VK}, (∃ Z r m ds, SR X.K Z r H1 m ∧ VRs X.K Z r H1 ds vs ∧ GE X.K Z r H1 (pureF (fun ds m => evNew x F ds m) ds m) Q (EW W σ)) →
          ∃ Z r m ds, SR X.K Z r H1 m ∧ VRs X.K Z r H1 ds vs ∧ GE X.K Z r H1 (evNew x F ds m) Q (EW W σ) := by
        rintro H1 vs Q ⟨Z, r, m, ds, hs, hv, g⟩
        obtain ⟨Z', r', m', ds', hn, hs', hv', g'⟩ := spS_pure (n := ds.length) (F := fun ds m => evNew x F ds m) ⟨Z, r, m, ds, rfl, hs, hv, g⟩
        exact ⟨Z', r', m', ds', hs', hv', g'⟩
      have h' := tA_step h (R := fun vs H1 => ∃ Z r m ds, SR X.K Z r H1 m ∧ VRs X.K Z r H1 ds vs ∧ GE X.K Z r H1 (evNew x F ds m) Q (EW W σ)) fun Z r δ m ds vs H1 rs hv g => conv ⟨Z, r, m, ds, rs.sr, hv, g⟩
      cases l with
      | nil =>
        refine PySem.W.callWith_K0 I.kIn M.kp ?_
        have q := pa_of hf hs
        cases fl with
        | nil =>
          obtain ⟨Z, r, δ, m, rs, g⟩ := h
          obtain ⟨Z', r', m', ds', hs', hv', g'⟩ := conv ⟨Z, r, m, [], rs.sr, .nil, g⟩
          exact new_go S M A (us := []) I .nil hs' hv' g'
        | cons _ _ => exact hf.elim
      | cons a as =>
        refine PySem.W.callWith_K (h₀ := X.base) I.ok.mod.kin M.kp (thn ((pa_of hf hs).run pos pins s σ H _ I h') fun us s1 ⟨vs, H1, I1, rv, Z, r, m, ds, hs1, hv, g⟩ => ⟨I1.kIn, ?_⟩) (star1 (hs a List.mem_cons_self)) (star_all fun x hx => hs x (List.mem_cons_of_mem _ hx))
        exact new_go S M A I1 rv hs1 hv g
    · cases hl
  · cases hl
end
end ME
set_option Elab.async false
set_option linter.all false
set_option maxRecDepth 100000
set_option maxHeartbeats 4000000
namespace ME
open PySem PySem.Spec PyProof.Rows L2
/-! #### xs[a:] as a list that may be changed -/
def evSlcM (d : D) (lo hi : Option Int) (m : Sto) : Res D := match lstOfR m d with
  | some ds => .ok (.ref m.length) (m ++ [.lst (cutG ds lo hi)])
  | none => .stuck
def slcMS : Scope → PySem.Expr → Option (List PySem.Expr)
  | _, .Subscript a (.Slice (some lo) none none _) _ => some [a, lo]
  | _, _ => none
def slcMG : Gn := ⟨slcMS, fun fl => match fl with
  | [fa, fb] => fun d m => (fa d m).bind fun x m1 => (fb d m1).bind fun y m2 => toPart [y] fun u => evSlcM x u none m2
  | _ => fun _ _ => .stuck⟩
theorem slcM_ok {X : Cx} : SlR X (rS X.K evSlcM) := by
  intro pins s σ H x v vl vu lo hi sl Q I rx hsl pl pu h
  obtain ⟨Z, r, m, d, E, hs, hd, g⟩ := h
  unfold evSlcM at g
  split at g
  · rename_i ds eds
    obtain ⟨a, xs, rfl, hq, hx⟩ := hs.lstR hd eds
    exact sl_list pins s σ H _ v vl vu lo hi sl Q I rx hsl pl pu ⟨a, xs, rfl, hq, fun p hp => g.cell hs (hx.cut lo hi) hp⟩
  · exact g.elim
theorem slcMG_ok {g : Gw} : GenOk g slcMG := by
  intro X W N sc hg S e l hl fl hf
  subst hg
  have hl : slcMS sc e = some l := hl
  unfold slcMS at hl
  split at hl
  · cases hl
    match fl, hf with
    | [fa, fb], hf =>
      refine (pe_slice slcM_ok hf.1 (po_one hf.2.1) (po_nil (W := W))).imp fun σ H Q ⟨Z, r, δ, m, rs, g0⟩ => ?_
      have g0 : GE X.K Z r H ((fa δ m).bind fun x m1 => (fb δ m1).bind fun y m2 => toPart [y] fun u => evSlcM x u none m2) Q (EW W σ) := g0
      refine ⟨Z, r, δ, m, rs, g0.bind.mono fun v H1 ⟨r1, d, m1, e1, s1, h1, _, g1⟩ => ?_⟩
      refine ⟨Z, r1, δ, m1, rs.ext e1 s1, ?_⟩
      have g1' : GA X.K Z r1 H1 ((fb δ m1).bind fun x m1 => (Res.ok [] m1).bind fun xs m2 => .ok (x :: xs) m2) (fun vs H2 => ∃ r2 ds m2, Ext r1 H1 r2 H2 ∧ SR X.K Z r2 H2 m2 ∧ VRs X.K Z r2 H2 ds vs ∧ GE X.K Z r2 H2 (toPart ds fun u => evSlcM d u none m2) Q (EW W σ)) (EW W σ) := by
        cases q : fb δ m1 with
        | ok y m2 =>
          rw [q] at g1
          exact fun vs H2 r2 e2 s2 h2 => ⟨r2, [y], m2, e2, s2, h2, GE.ext e2 g1⟩
        | exc c es m2 => rw [q] at g1; exact g1
        | stuck => rw [q] at g1; exact g1
      refine GA.mono g1' fun vs H2 ⟨r2, ds, m2, e2, s2, h2, g2⟩ => ?_
      obtain ⟨u, hu, g2⟩ := g2.part h2
      refine ⟨u, hu, ?_⟩
      refine ⟨Z, r2, δ, m2, (rs.ext e1 s1).ext e2 s2, fun ws H3 r3 e3 s3 h3 => ⟨none, .inl ⟨h3.inv_nil, rfl⟩, ?_⟩⟩
      exact ⟨Z, r3, m2, d, _, s3, (h1.ext e2).ext e3, GE.ext e3 g2⟩
    | [], hf => exact hf.elim
    | [_], hf => exact hf.2.elim
    | _ :: _ :: _ :: _, hf => exact hf.2.2.elim
  · cases hl
/-! #### defs that raise nothing -/
def noxF (F : Fn) : Fn := fun ds m => (F ds m).nox
theorem noxF_nx {F : Fn} : ∀ ds s c es s', noxF F ds s ≠ .exc c es s' := by
  intro ds s c es s' h
  unfold noxF at h
  cases q : F ds s <;> (rw [q] at h; cases h)
theorem spS_nox {K : PySem.W.Frag} {H : Hp} {n : Nat} {F : Fn} {vs : List V} {Q : VK} {E : XK} (h : spS K n (noxF F) vs H Q E) : spS K n F vs H Q E := by
  obtain ⟨Z, r, m, ds, hn, hs, hv, g⟩ := h
  refine ⟨Z, r, m, ds, hn, hs, hv, ?_⟩
  unfold noxF at g
  cases q : F ds m with
  | ok d m1 => rw [q] at g; exact g
  | exc c es m1 => rw [q] at g; exact g.elim
  | stuck => rw [q] at g; exact g.elim
section
variable {P : Program} {w : World} {K : PySem.W.Frag} {mg : Str → Option Value} {base : Heap} {k : Nat} {f : Addr} {F : Fn}
theorem FnF.nox (h : FnF P w K mg base k f F) : FnF P w K mg base k f (noxF F) := by
  obtain ⟨⟨fd, ps, n, h1, h2, h3⟩, h4⟩ := h
  exact ⟨⟨fd, ps, n, h1.imp fun vs H Q E q => spS_nox q, h2, fun ds m hl => by unfold noxF; rw [h3 ds m hl]; rfl⟩, h4⟩
theorem pureF_stuck {n : Nat} (h3 : ∀ ds m, ds.length ≠ n → F ds m = .stuck) : ∀ ds m, ds.length ≠ n → pureF F ds m = .stuck := by
  intro ds m hl
  unfold pureF
  split
  · rw [h3 ds [] hl]
  · split
    · rename_i es ee
      rw [h3 es [] (by rw [frzs_len ee]; exact hl)]
    · rfl
theorem CallKOk.pure {g : Gw} {x : Str} {ks : List Str} {perm : List Nat} (h : CallKOk g x F ks perm) : CallKOk g x (pureF F) ks perm := by
  obtain ⟨f, fd, ps, n, k, h1, h2, h3, h4, h5, h6, h7⟩ := h
  exact ⟨f, fd, ps, n, k, h1, h2, h3.imp fun vs H Q E q => spS_pure q, h4, h5, h6, pureF_stuck h7⟩
end
/-! #### {} that is not changed -/
def dct0S : Scope → PySem.Expr → Option (List PySem.Expr)
  | _, .Dict [] [] _ => some []
  | _, _ => none
def dct0G : Gn := ⟨dct0S, fun _ _ m => .ok (.dct [] []) m⟩
theorem dct0G_ok {g : Gw} : GenOk g dct0G := by
  intro X W N sc hg S e l hl fl hf
  have hl : dct0S sc e = some l := hl
  unfold dct0S at hl
  split at hl
  · refine pe_dnewK.imp fun σ H Q ⟨Z, r, δ, m, rs, g⟩ p hp => ?_
    have g : GE X.K Z r H (.ok (.dct [] []) m) Q (EW W σ) := g
    refine g _ _ r (.obj hp) (rs.sr.obj hp) ?_
    rw [VR]
    exact ⟨p, [], rfl, upd_same, rs.sr.fresh hp, rfl, .nil⟩
  · cases hl
/-! #### the classes that an instance may be of -/
theorem cs_nil {Pr : Str → Prop} : ∀ c ∈ ([] : List Str), Pr c := nofun
theorem cs_cons {cs : List Str} {c : Str} {A B : Str → Prop} (h1 : A c) (h2 : B c) (h : ∀ c ∈ cs, A c ∧ B c) : ∀ d ∈ c :: cs, A d ∧ B d := fun d hd => (List.mem_cons.mp hd).elim (fun e => by rw [e]; exact ⟨h1, h2⟩) (h d)
end ME
set_option Elab.async false
set_option linter.all false
set_option maxRecDepth 100000
set_option maxHeartbeats 0
namespace PG
open PySem PySem.Spec PyProof.Rows L2 ME
def ps__law_take : List Str := ["_law_purse_here", "_law_many"]
def N__law_take : List Str := ["_law_purse_here", "_law_many", "_law_factor", "_law_seed", "_law_count", "_law_digit"]
def s__law_take : List Sm := [.asg (.sub (.var 0) (.int 2)) (.bin .Add (.idx (.var 0) (.int 2)) (.int 1)), .ite (.cmp .Gt (.idx (.var 0) (.int 1)) (.int 0)) [.asg (.tup (.cons (.sub (.var 0) (.int 1)) (.cons (.name 5) .nil))) (.bf .divmod (.cons (.idx (.var 0) (.int 1)) (.cons (.var 1) .nil))), .ret (.var 5)] [], .par2 3 4 (.bf .int (.cons (.idx (.var 0) (.int 0)) .nil)) (.idx (.var 0) (.int 2)), .asg (.name 2) (.bin .Add (.bin .Mod (.bf .int (.cons (.bin .FloorDiv (.var 3) (.int 17)) .nil)) (.int 39983)) (.int 30097)), .asg (.sub (.var 0) (.int 0)) (.bin .Mod (.bf .int (.cons (.bin .Add (.bin .Add (.bin .Mult (.var 3) (.var 2)) (.bin .Mult (.bin .Mult (.int 50033) (.var 4)) (.var 4))) (.int 43)) .nil)) (.int 2147483323)), .ret (.bin .Mod (.bf .int (.cons (.bin .FloorDiv (.idx (.var 0) (.int 0)) (.int 128)) .nil)) (.var 1))]
def F__law_take : Fn := runF 100 2 6 s__law_take
def ps__law_one : List Str := ["_law_purse_here", "_law_things"]
def N__law_one : List Str := ["_law_purse_here", "_law_things"]
def s__law_one : List Sm := [.ret (.idx (.var 1) (.call "_law_take" F__law_take (.cons (.var 0) (.cons (.bf .len (.cons (.var 1) .nil)) .nil))))]
def F__law_one : Fn := runF 100 2 2 s__law_one
def ps__law_duo_k74 : List Str := ["_law_purse_here", "_law_size"]
def N__law_duo_k74 : List Str := ["_law_purse_here", "_law_size", "_law_low_sets", "_law_span", "_law_some", "_law_hears", "_law_sets", "_law_many", "_law_times_span", "_law_upper", "_law_lower"]
def s__law_duo_k74 : List Sm := [.par2 6 3 (.call "_law_one" F__law_one (.cons (.var 0) (.cons (.lst (.cons (.int 1) (.cons (.int 1) (.cons (.int 2) (.cons (.int 3) (.cons (.int 4) .nil)))))) .nil))) (.call "_law_one" F__law_one (.cons (.var 0) (.cons (.lst (.cons (.int 1) (.cons (.int 1) (.cons (.int 2) (.cons (.int 3) .nil))))) .nil))), .par2 7 8 (.call "_law_one" F__law_one (.cons (.var 0) (.cons (.lst (.cons (.int 1) (.cons (.int 1) (.cons (.int 2) (.cons (.int 3) .nil))))) .nil))) (.call "_law_one" F__law_one (.cons (.var 0) (.cons (.lst (.cons (.int 1) (.cons (.int 1) (.cons (.int 1) (.cons (.int 2) (.cons (.int 3) .nil)))))) .nil))), .asg (.name 2) (.call "_law_one" F__law_one (.cons (.var 0) (.cons (.lst (.cons (.bin .Mult (.var 6) (.var 7)) (.cons (.bin .Mult (.var 6) (.var 7)) (.cons (.bin .Add (.int 1) (.call "_law_take" F__law_take (.cons (.var 0) (.cons (.int 5) .nil)))) .nil)))) .nil))), .asg (.tup (.cons (.name 6) (.cons (.name 2) .nil))) (.call "_law_one" F__law_one (.cons (.var 0) (.cons (.lst (.cons (.lst (.cons (.var 6) (.cons (.var 2) .nil))) (.cons (.lst (.cons (.var 6) (.cons (.var 2) .nil))) (.cons (.lst (.cons (.bin .Mult (.var 6) (.var 1)) (.cons (.bin .Mult (.var 2) (.var 1)) .nil))) .nil)))) .nil))), .asg (.name 3) (.bin .Mult (.var 3) (.call "_law_one" F__law_one (.cons (.var 0) (.cons (.lst (.cons (.int 1) (.cons (.int 1) (.cons (.var 1) .nil)))) .nil)))), .asg (.name 4) (.lst (.cons (.str "misses") (.cons (.str "misses") (.cons (.str "moved") (.cons (.tup (.cons (.str "each") (.cons (.int 0) .nil))) (.cons (.tup (.cons (.str "each") (.cons (.int 1) .nil))) (.cons (.tup (.cons (.str "each") (.cons (.bin .Add (.int 1) (.call "_law_take" F__law_take (.cons (.var 0) (.cons (.int 5) .nil)))) .nil))) .nil))))))), .asg (.name 5) (.call "_law_one" F__law_one (.cons (.var 0) (.cons (.var 4) .nil))), .par2 9 10 (.tup (.cons (.var 6) (.cons (.bin .Add (.int 1) (.call "_law_take" F__law_take (.cons (.var 0) (.cons (.int 4) .nil)))) (.cons (.var 3) .nil)))) (.tup (.cons (.var 2) (.cons (.bin .Add (.int 1) (.call "_law_take" F__law_take (.cons (.var 0) (.cons (.int 6) .nil)))) (.cons (.bin .Mult (.var 3) (.var 8)) .nil)))), .ret (.tup (.cons (.var 9) (.cons (.var 10) (.cons (.var 5) .nil))))]
def F__law_duo_k74 : Fn := runF 100 2 11 s__law_duo_k74
def ps__law_least : List Str := ["_law_mine"]
def N__law_least : List Str := ["_law_mine", "_law_upper", "_law_lower", "_law_hears"]
def s__law_least : List Sm := [.asg (.tup (.cons (.name 1) (.cons (.name 2) (.cons (.name 3) .nil)))) (.var 0), .ite (.and (.cons (.cmp .NotEq (.idx (.var 1) (.int 0)) (.int 1)) (.cons (.or (.cons (.cmp .NotEq (.idx (.var 1) (.int 2)) (.idx (.var 2) (.int 2))) (.cons (.cmp .NotEq (.bin .Mod (.bf .int (.cons (.idx (.var 2) (.int 0)) .nil)) (.idx (.var 1) (.int 0))) (.int 0)) .nil))) .nil))) [.ret (.int 0)] [], .ite (.cmp .Eq (.idx (.var 1) (.int 1)) (.int 1)) [.ret (.int 1)] [], .ite (.cmp .Eq (.var 3) (.str "misses")) [.ret (.int 0)] [], .ret (.ite (.cmp .In (.var 3) (.lst (.cons (.str "moved") (.cons (.tup (.cons (.str "each") (.cons (.int 0) .nil))) .nil)))) (.idx (.var 1) (.int 1)) (.bin .Sub (.bin .Add (.bin .Mult (.int 2) (.idx (.var 1) (.int 1))) (.idx (.var 3) (.int 1))) (.int 2)))]
def F__law_least : Fn := runF 100 1 4 s__law_least
def ps_read_number : List Str := ["word"]
def N_read_number : List Str := ["word", "number", "sign"]
def s_read_number : List Sm := [.ite (.or (.cons (.cmp .Eq (.var 0) (.str "")) (.cons (.cmp .Gt (.bf .len (.cons (.var 0) .nil)) (.int 80)) (.cons (.nt (.bf .all (.cons (.lc (.cmp .In (.var 2) (.glo "DIGITS" (.str "0123456789"))) (.name 2) (.lst (.var 0)) .nil [("sign", 2)]) .nil))) .nil)))) [.ret .non] [], .asg (.name 1) (.bf .int (.cons (.var 0) .nil)), .ret (.ite (.cmp .Eq (.bf .str (.cons (.var 1) .nil)) (.var 0)) (.var 1) .non)]
def F_read_number : Fn := runF 100 1 3 s_read_number
def ps_read_hears : List Str := ["words"]
def N_read_hears : List Str := ["words", "number"]
def s_read_hears : List Sm := [.ite (.cmp .Eq (.bf .len (.cons (.var 0) .nil)) (.int 1)) [.ret (.ite (.cmp .In (.idx (.var 0) (.int 0)) (.tup (.cons (.glo "MISSES" (.str "misses")) (.cons (.glo "MOVED" (.str "moved")) .nil)))) (.idx (.var 0) (.int 0)) .non)] [], .asg (.name 1) (.ite (.and (.cons (.cmp .Eq (.bf .len (.cons (.var 0) .nil)) (.int 2)) (.cons (.cmp .Eq (.idx (.var 0) (.int 0)) (.glo "EACH" (.str "each"))) .nil))) (.call "read_number" (pureF F_read_number) (.cons (.idx (.var 0) (.int 1)) .nil)) .non), .ret (.ite (.or (.cons (.cmp .Is (.var 1) .non) (.cons (.cmp .Gt (.var 1) (.glo "MOST_SIZE" (.int 1000000000000000000000000000000))) .nil))) .non (.tup (.cons (.glo "EACH" (.str "each")) (.cons (.var 1) .nil))))]
def F_read_hears : Fn := runF 100 1 2 s_read_hears
def ps_is_integer : List Str := ["value"]
def N_is_integer : List Str := ["value"]
def s_is_integer : List Sm := [.ret (.and (.cons (.isi (.var 0) (.bi "int") ["Pair", "Keeper"]) (.cons (.nt (.isi (.var 0) (.bi "bool") ["Pair", "Keeper"])) .nil)))]
def F_is_integer : Fn := runF 100 1 1 s_is_integer
def ps_is_within : List Str := ["value", "least", "most"]
def N_is_within : List Str := ["value", "least", "most"]
def s_is_within : List Sm := [.ret (.and (.cons (.call "is_integer" (pureF F_is_integer) (.cons (.var 0) .nil)) (.cons (.chn .LtE .LtE (.var 1) (.var 0) (.var 2)) .nil)))]
def F_is_within : Fn := runF 100 3 3 s_is_within
def ps_wrong_number : List Str := ["value"]
def N_wrong_number : List Str := ["value", "at", "number"]
def s_wrong_number : List Sm := [.ite (.or (.cons (.nt (.isi (.var 0) (.bi "tuple") ["Pair", "Keeper"])) (.cons (.cmp .NotEq (.bf .len (.cons (.var 0) .nil)) (.int 3)) .nil))) [.ret (.tup (.cons .non .nil))] [], .loop (.tup (.cons (.name 1) (.cons (.name 2) .nil))) (.enumL (.var 0)) [.ite (.nt (.call "is_within" (pureF F_is_within) (.cons (.var 2) (.cons (.int 1) (.cons (.glo "MOST_SIZE" (.int 1000000000000000000000000000000)) .nil))))) [.ret (.tup (.cons (.var 1) .nil))] []], .ret (.tup .nil)]
def F_wrong_number : Fn := runF 100 1 3 s_wrong_number
def ps_read_pair : List Str := ["text"]
def N_read_pair : List Str := ["text", "words", "hears", "upper", "lower", "part", "word"]
def s_read_pair : List Sm := [.asg (.name 1) (.ite (.isi (.var 0) (.bi "str") ["Pair", "Keeper"]) (.bm .split (.var 0) (.cons (.str " ") .nil)) (.lst .nil)), .ite (.or (.cons (.cmp .Lt (.bf .len (.cons (.var 1) .nil)) (.int 10)) (.cons (.cmp .NotEq (.lst (.cons (.idx (.var 1) (.int 0)) (.cons (.idx (.var 1) (.int 4)) (.cons (.idx (.var 1) (.int 8)) .nil)))) (.lst (.cons (.str "upper") (.cons (.str "lower") (.cons (.str "hears") .nil))))) .nil))) [.ret .non] [], .asg (.tup (.cons (.name 3) (.cons (.name 4) .nil))) (.lc (.bf .tuple (.cons (.lc (.call "read_number" (pureF F_read_number) (.cons (.var 6) .nil)) (.name 6) (.lst (.var 5)) .nil [("word", 6)]) .nil)) (.name 5) (.lst (.tup (.cons (.slc (.var 1) (.cons (.int 1) .nil) (.cons (.int 4) .nil)) (.cons (.slc (.var 1) (.cons (.int 5) .nil) (.cons (.int 8) .nil)) .nil)))) .nil [("part", 5)]), .asg (.name 2) (.call "read_hears" (pureF F_read_hears) (.cons (.slc (.var 1) (.cons (.int 9) .nil) .nil) .nil)), .ite (.or (.cons (.cmp .Is (.var 2) .non) (.cons (.cmp .NotEq (.call "wrong_number" (pureF F_wrong_number) (.cons (.var 3) .nil)) (.tup .nil)) (.cons (.cmp .NotEq (.call "wrong_number" (pureF F_wrong_number) (.cons (.var 4) .nil)) (.tup .nil)) (.cons (.cmp .NotEq (.bin .Mod (.idx (.var 4) (.int 2)) (.idx (.var 3) (.int 2))) (.int 0)) .nil))))) [.ret .non] [], .ret (.tup (.cons (.var 3) (.cons (.var 4) (.cons (.var 2) .nil))))]
def F_read_pair : Fn := runF 100 1 7 s_read_pair
def ps_is_hears : List Str := ["value"]
def N_is_hears : List Str := ["value"]
def s_is_hears : List Sm := [.ite (.isi (.var 0) (.bi "tuple") ["Pair", "Keeper"]) [.ret (.and (.cons (.cmp .Eq (.bf .len (.cons (.var 0) .nil)) (.int 2)) (.cons (.cmp .Eq (.idx (.var 0) (.int 0)) (.glo "EACH" (.str "each"))) (.cons (.call "is_within" (pureF F_is_within) (.cons (.idx (.var 0) (.int 1)) (.cons (.int 0) (.cons (.glo "MOST_SIZE" (.int 1000000000000000000000000000000)) .nil)))) .nil))))] [], .ret (.cmp .In (.var 0) (.tup (.cons (.glo "MISSES" (.str "misses")) (.cons (.glo "MOVED" (.str "moved")) .nil))))]
def F_is_hears : Fn := runF 100 1 1 s_is_hears
def ps_Pair_init : List Str := ["self", "upper", "lower", "hears"]
def N_Pair_init : List Str := ["self", "upper", "lower", "hears", "wrong"]
def s_Pair_init : List Sm := [.asg (.name 4) (.call "wrong_number" (pureF F_wrong_number) (.cons (.var 1) .nil)), .ite (.cmp .NotEq (.var 4) (.tup .nil)) [.never] [], .asg (.name 4) (.call "wrong_number" (pureF F_wrong_number) (.cons (.var 2) .nil)), .ite (.cmp .NotEq (.var 4) (.tup .nil)) [.never] [], .ite (.cmp .NotEq (.bin .Mod (.idx (.var 2) (.int 2)) (.idx (.var 1) (.int 2))) (.int 0)) [.never] [], .ite (.nt (.call "is_hears" (pureF F_is_hears) (.cons (.var 3) .nil))) [.never] [], .asg (.att "Pair" (.var 0) "front") (.var 1), .asg (.att "Pair" (.var 0) "back") (.var 2), .asg (.att "Pair" (.var 0) "notes") (.var 3)]
def F_Pair_init : Fn := runF 100 4 5 s_Pair_init
def ps_Pair_top : List Str := ["self"]
def N_Pair_top : List Str := ["self"]
def s_Pair_top : List Sm := [.ret (.fld "Pair" (.var 0) "front")]
def F_Pair_top : Fn := runF 100 1 1 s_Pair_top
def ps_Pair_bottom : List Str := ["self"]
def N_Pair_bottom : List Str := ["self"]
def s_Pair_bottom : List Sm := [.ret (.fld "Pair" (.var 0) "back")]
def F_Pair_bottom : Fn := runF 100 1 1 s_Pair_bottom
def ps_is_linked : List Str := ["pair"]
def N_is_linked : List Str := ["pair", "upper", "lower"]
def s_is_linked : List Sm := [.par2 1 2 (.prp "Pair" (.var 0) "top" (noxF F_Pair_top)) (.prp "Pair" (.var 0) "bottom" (noxF F_Pair_bottom)), .ret (.or (.cons (.cmp .Eq (.idx (.var 1) (.int 0)) (.int 1)) (.cons (.and (.cons (.cmp .Eq (.idx (.var 1) (.int 2)) (.idx (.var 2) (.int 2))) (.cons (.cmp .Eq (.bin .Mod (.idx (.var 2) (.int 0)) (.idx (.var 1) (.int 0))) (.int 0)) .nil))) .nil)))]
def F_is_linked : Fn := runF 100 1 3 s_is_linked
def ps_ways_for : List Str := ["pair", "hears"]
def N_ways_for : List Str := ["pair", "hears", "ways"]
def s_ways_for : List Sm := [.asg (.name 2) (.idx (.prp "Pair" (.var 0) "top" (noxF F_Pair_top)) (.int 1)), .ite (.nt (.call "is_linked" (pureF F_is_linked) (.cons (.var 0) .nil))) [.ret .non] [], .ite (.cmp .Eq (.var 2) (.int 1)) [.ret (.int 1)] [], .ite (.cmp .Eq (.var 1) (.glo "MISSES" (.str "misses"))) [.ret .non] [], .ite (.cmp .In (.var 1) (.tup (.cons (.glo "MOVED" (.str "moved")) (.cons (.tup (.cons (.glo "EACH" (.str "each")) (.cons (.int 0) .nil))) .nil)))) [.ret (.var 2)] [], .ret (.bin .Sub (.bin .Add (.bin .Mult (.int 2) (.var 2)) (.idx (.var 1) (.int 1))) (.int 2))]
def F_ways_for : Fn := runF 100 2 3 s_ways_for
def ps_is_enough : List Str := ["pair", "hears"]
def N_is_enough : List Str := ["pair", "hears", "least"]
def s_is_enough : List Sm := [.asg (.name 2) (.call "ways_for" (pureF F_ways_for) (.cons (.var 0) (.cons (.var 1) .nil))), .ret (.and (.cons (.cmp .IsNot (.var 2) .non) (.cons (.cmp .GtE (.idx (.prp "Pair" (.var 0) "bottom" (noxF F_Pair_bottom)) (.int 1)) (.var 2)) .nil)))]
def F_is_enough : Fn := runF 100 2 3 s_is_enough
def ps_Pair_hears : List Str := ["self"]
def N_Pair_hears : List Str := ["self"]
def s_Pair_hears : List Sm := [.ret (.fld "Pair" (.var 0) "notes")]
def F_Pair_hears : Fn := runF 100 1 1 s_Pair_hears
def ps_is_empty : List Str := ["value"]
def N_is_empty : List Str := ["value"]
def s_is_empty : List Sm := [.ret (.and (.cons (.isi (.var 0) (.bi "tuple") ["Pair", "Keeper"]) (.cons (.cmp .Eq (.bf .len (.cons (.var 0) .nil)) (.int 0)) .nil)))]
def F_is_empty : Fn := runF 100 1 1 s_is_empty
def ps_Run_init : List Str := ["self", "pair", "takes_back"]
def N_Run_init : List Str := ["self", "pair", "takes_back"]
def s_Run_init : List Sm := [.asg (.att "Run" (.var 0) "duo") (.var 1), .asg (.att "Run" (.var 0) "takes_back") (.var 2), .asg (.att "Run" (.var 0) "tops") .dctM, .asg (.att "Run" (.var 0) "lows") .dctM, .asg (.att "Run" (.var 0) "heard") .dctM, .asg (.att "Run" (.var 0) "missed") .dctM, .asg (.att "Run" (.var 0) "newest") .dctM, .asg (.att "Run" (.var 0) "noted") (.int 0), .asg (.att "Run" (.var 0) "gone") (.int 0)]
def F_Run_init : Fn := runF 100 3 3 s_Run_init
def Fd1_Run_init : Fn := fun es m => F_Run_init (es ++ [.bl false]) m
def ps_Run_tells : List Str := ["self", "piece", "at"]
def N_Run_tells : List Str := ["self", "piece", "at", "hears"]
def s_Run_tells : List Sm := [.asg (.name 3) (.prp "Pair" (.fld "Run" (.var 0) "duo") "hears" (noxF F_Pair_hears)), .ite (.cmp .Eq (.var 3) (.glo "MISSES" (.str "misses"))) [.ret (.bl false)] [], .ite (.cmp .Eq (.var 3) (.glo "MOVED" (.str "moved"))) [.ret (.cmp .NotEq (.get (.fld "Run" (.var 0) "newest") (.var 2)) (.var 1))] [], .ret (.cmp .GtE (.bin .Sub (.bm .get2 (.fld "Run" (.var 0) "missed") (.cons (.var 2) (.cons (.int 0) .nil))) (.get (.fld "Run" (.var 0) "heard") (.var 1))) (.idx (.var 3) (.int 1)))]
def F_Run_tells : Fn := runF 100 3 4 s_Run_tells
def ps_Run_below : List Str := ["self", "piece"]
def N_Run_below : List Str := ["self", "piece"]
def s_Run_below : List Sm := [.ret (.bin .FloorDiv (.bin .Mult (.var 1) (.idx (.prp "Pair" (.fld "Run" (.var 0) "duo") "top" (noxF F_Pair_top)) (.int 2))) (.idx (.prp "Pair" (.fld "Run" (.var 0) "duo") "bottom" (noxF F_Pair_bottom)) (.int 2)))]
def F_Run_below : Fn := runF 100 2 2 s_Run_below
def ps_Run_take_back : List Str := ["self", "low"]
def N_Run_take_back : List Str := ["self", "low", "found", "many", "at", "row", "piece"]
def s_Run_take_back : List Sm := [.par2 2 3 .dctM (.int 0), .loopD "Run" 0 "tops" true (.tup (.cons (.name 4) (.cons (.name 5) .nil))) [.asg (.put (.var 2) (.var 4)) (.lc (.var 6) (.name 6) (.lst (.var 5)) (.cons (.cmp .NotEq (.mth "Run" (.var 0) "below" F_Run_below (.cons (.var 6) .nil)) (.var 1)) .nil) [("piece", 6)]), .asg (.name 3) (.bin .Sub (.bin .Add (.var 3) (.bf .len (.cons (.var 5) .nil))) (.bf .len (.cons (.get (.var 2) (.var 4)) .nil)))], .asg (.att "Run" (.var 0) "tops") (.var 2), .asg (.att "Run" (.var 0) "gone") (.bin .Add (.fld "Run" (.var 0) "gone") (.var 3))]
def F_Run_take_back : Fn := runF 100 2 7 s_Run_take_back
def ps_Run_hear : List Str := ["self", "low"]
def N_Run_hear : List Str := ["self", "low", "row", "hit", "sets", "ways", "span", "piece", "first"]
def s_Run_hear : List Sm := [.asg (.tup (.cons (.name 4) (.cons (.name 5) (.cons (.name 6) .nil)))) (.prp "Pair" (.fld "Run" (.var 0) "duo") "bottom" (noxF F_Pair_bottom)), .asg (.name 2) (.bm .get2 (.fld "Run" (.var 0) "lows") (.cons (.bin .Mod (.var 1) (.var 4)) (.cons (.lst .nil) .nil))), .asg (.name 3) (.cmp .In (.var 1) (.var 2)), .ite (.var 3) [.asg (.name 2) (.lc (.var 7) (.name 7) (.lst (.var 2)) (.cons (.cmp .NotEq (.var 7) (.var 1)) .nil) [("piece", 7)])] [.ite (.cmp .Eq (.bf .len (.cons (.var 2) .nil)) (.var 5)) [.par2 8 2 (.idx (.var 2) (.int 0)) (.slc (.var 2) (.cons (.int 1) .nil) .nil), .ite (.fld "Run" (.var 0) "takes_back") [.exp (.mth "Run" (.var 0) "take_back" F_Run_take_back (.cons (.var 8) .nil))] []] []], .asg (.put (.fld "Run" (.var 0) "lows") (.bin .Mod (.var 1) (.var 4))) (.bin .Add (.var 2) (.lst (.cons (.var 1) .nil))), .ret (.var 3)]
def F_Run_hear : Fn := runF 100 2 9 s_Run_hear
def ps_Run_ask : List Str := ["self", "place"]
def N_Run_ask : List Str := ["self", "place", "at", "hit", "row", "sets", "ways", "span", "piece", "low", "told", "each"]
def s_Run_ask : List Sm := [.asg (.tup (.cons (.name 5) (.cons (.name 6) (.cons (.name 7) .nil)))) (.prp "Pair" (.fld "Run" (.var 0) "duo") "top" (noxF F_Pair_top)), .asg (.tup (.cons (.name 8) (.cons (.name 9) .nil))) (.tup (.cons (.bin .FloorDiv (.var 1) (.var 7)) (.cons (.bin .FloorDiv (.var 1) (.idx (.prp "Pair" (.fld "Run" (.var 0) "duo") "bottom" (noxF F_Pair_bottom)) (.int 2))) .nil))), .asg (.name 2) (.bin .Mod (.var 8) (.var 5)), .ite (.cmp .In (.var 8) (.bm .get2 (.fld "Run" (.var 0) "tops") (.cons (.var 2) (.cons (.lst .nil) .nil)))) [.asg (.name 10) (.mth "Run" (.var 0) "tells" F_Run_tells (.cons (.var 8) (.cons (.var 2) .nil))), .asg (.put (.fld "Run" (.var 0) "tops") (.var 2)) (.bin .Add (.lc (.var 11) (.name 11) (.lst (.get (.fld "Run" (.var 0) "tops") (.var 2))) (.cons (.cmp .NotEq (.var 11) (.var 8)) .nil) [("each", 11)]) (.lst (.cons (.var 8) .nil))), .asg (.put (.fld "Run" (.var 0) "newest") (.var 2)) (.var 8), .ite (.var 10) [.exp (.mth "Run" (.var 0) "hear" F_Run_hear (.cons (.var 9) .nil)), .asg (.put (.fld "Run" (.var 0) "heard") (.var 8)) (.bm .get2 (.fld "Run" (.var 0) "missed") (.cons (.var 2) (.cons (.int 0) .nil))), .asg (.att "Run" (.var 0) "noted") (.bin .Add (.fld "Run" (.var 0) "noted") (.int 1))] [], .ret (.tup (.cons (.str "upper") (.cons (.var 10) .nil)))] [], .asg (.put (.fld "Run" (.var 0) "missed") (.var 2)) (.bin .Add (.bm .get2 (.fld "Run" (.var 0) "missed") (.cons (.var 2) (.cons (.int 0) .nil))) (.int 1)), .asg (.put (.fld "Run" (.var 0) "newest") (.var 2)) (.var 8), .asg (.name 3) (.mth "Run" (.var 0) "hear" F_Run_hear (.cons (.var 9) .nil)), .asg (.put (.fld "Run" (.var 0) "heard") (.var 8)) (.get (.fld "Run" (.var 0) "missed") (.var 2)), .asg (.name 4) (.bm .get2 (.fld "Run" (.var 0) "tops") (.cons (.var 2) (.cons (.lst .nil) .nil))), .asg (.put (.fld "Run" (.var 0) "tops") (.var 2)) (.bin .Add (.ite (.cmp .Eq (.bf .len (.cons (.var 4) .nil)) (.var 6)) (.slc (.var 4) (.cons (.int 1) .nil) .nil) (.var 4)) (.lst (.cons (.var 8) .nil))), .ret (.tup (.cons (.ite (.var 3) (.str "lower") (.str "none")) (.cons (.bl false) .nil)))]
def F_Run_ask : Fn := runF 100 2 12 s_Run_ask
def ps_run_of : List Str := ["pair", "row"]
def N_run_of : List Str := ["pair", "row", "place", "found", "told"]
def s_run_of : List Sm := [.par2 3 4 (.new "Run" Fd1_Run_init (.cons (.var 0) .nil)) (.lstM .nil), .loop (.name 2) (.lst (.var 1)) [.exp (.bm .append (.var 4) (.cons (.mth "Run" (.var 3) "ask" F_Run_ask (.cons (.var 2) .nil)) .nil))], .ret (.tup (.cons (.var 3) (.cons (.var 4) .nil)))]
def F_run_of : Fn := runF 100 2 5 s_run_of
def ps_Run_keeps : List Str := ["self", "place"]
def N_Run_keeps : List Str := ["self", "place", "above", "piece", "low"]
def s_Run_keeps : List Sm := [.par2 3 4 (.bin .FloorDiv (.var 1) (.idx (.prp "Pair" (.fld "Run" (.var 0) "duo") "top" (noxF F_Pair_top)) (.int 2))) (.bin .FloorDiv (.var 1) (.idx (.prp "Pair" (.fld "Run" (.var 0) "duo") "bottom" (noxF F_Pair_bottom)) (.int 2))), .asg (.name 2) (.cmp .In (.var 3) (.bm .get2 (.fld "Run" (.var 0) "tops") (.cons (.bin .Mod (.var 3) (.idx (.prp "Pair" (.fld "Run" (.var 0) "duo") "top" (noxF F_Pair_top)) (.int 0))) (.cons (.lst .nil) .nil)))), .ret (.tup (.cons (.var 2) (.cons (.cmp .In (.var 4) (.bm .get2 (.fld "Run" (.var 0) "lows") (.cons (.bin .Mod (.var 4) (.idx (.prp "Pair" (.fld "Run" (.var 0) "duo") "bottom" (noxF F_Pair_bottom)) (.int 0))) (.cons (.lst .nil) .nil)))) .nil)))]
def F_Run_keeps : Fn := runF 100 2 5 s_Run_keeps
def ps_Run_lonely : List Str := ["self"]
def N_Run_lonely : List Str := ["self", "row", "found", "span", "piece"]
def s_Run_lonely : List Sm := [.asg (.tup (.cons (.name 2) (.cons (.name 3) .nil))) (.tup (.cons (.lst .nil) (.cons (.idx (.prp "Pair" (.fld "Run" (.var 0) "duo") "top" (noxF F_Pair_top)) (.int 2)) .nil))), .loopD "Run" 0 "tops" false (.name 1) [.asg (.name 2) (.bin .Add (.var 2) (.lc (.var 4) (.name 4) (.lst (.var 1)) (.cons (.nt (.idx (.mth "Run" (.var 0) "keeps" F_Run_keeps (.cons (.bin .Mult (.var 4) (.var 3)) .nil)) (.int 1))) .nil) [("piece", 4)]))], .ret (.bf .tuple (.cons (.bf .sorted (.cons (.var 2) .nil)) .nil))]
def F_Run_lonely : Fn := runF 100 1 5 s_Run_lonely
def ps_wrong_ask : List Str := ["row"]
def N_wrong_ask : List Str := ["row", "at", "place"]
def s_wrong_ask : List Sm := [.ite (.nt (.isi (.var 0) (.bi "tuple") ["Pair", "Keeper"])) [.ret (.tup (.cons .non .nil))] [], .loop (.tup (.cons (.name 1) (.cons (.name 2) .nil))) (.enumL (.var 0)) [.ite (.or (.cons (.nt (.call "is_within" (pureF F_is_within) (.cons (.var 2) (.cons (.int 0) (.cons (.glo "MOST_PLACE" (.int 9999999999999999999999999999999999999999999999999999999999999999999999)) .nil))))) (.cons (.cmp .GtE (.var 1) (.glo "MOST_PLACES" (.int 2000))) .nil))) [.ret (.tup (.cons (.var 1) .nil))] []], .ret (.tup .nil)]
def F_wrong_ask : Fn := runF 100 1 3 s_wrong_ask
def ps_pair_shown : List Str := ["word", "text", "certificate"]
def N_pair_shown : List Str := ["word", "text", "certificate", "found", "pair"]
def s_pair_shown : List Sm := [.asg (.name 3) (.call "read_pair" (pureF F_read_pair) (.cons (.var 1) .nil)), .ite (.cmp .Is (.var 3) .non) [.ret (.bl false)] [], .asg (.name 4) (.gen (newG "Pair" F_Pair_init) (.cons (.idx (.var 3) (.int 0)) (.cons (.idx (.var 3) (.int 1)) (.cons (.idx (.var 3) (.int 2)) .nil)))), .ite (.cmp .Eq (.var 0) (.str "never")) [.ret (.and (.cons (.call "is_empty" (pureF F_is_empty) (.cons (.var 2) .nil)) (.cons (.call "is_enough" (pureF F_is_enough) (.cons (.var 4) (.cons (.prp "Pair" (.var 4) "hears" (noxF F_Pair_hears)) .nil))) .nil)))] [], .ret (.and (.cons (.cmp .Eq (.var 0) (.str "ever")) (.cons (.cmp .Eq (.call "wrong_ask" (pureF F_wrong_ask) (.cons (.var 2) .nil)) (.tup .nil)) (.cons (.cmp .NotEq (.mth "Run" (.idx (.call "run_of" F_run_of (.cons (.var 4) (.cons (.var 2) .nil))) (.int 0)) "lonely" F_Run_lonely .nil) (.tup .nil)) .nil))))]
def F_pair_shown : Fn := runF 100 3 5 s_pair_shown
def ps_read_states : List Str := ["word"]
def N_read_states : List Str := ["word", "part"]
def s_read_states : List Sm := [.ret (.bf .tuple (.cons (.lc (.call "read_number" (pureF F_read_number) (.cons (.var 1) .nil)) (.name 1) (.lst (.bm .split (.var 0) (.cons (.str ",") .nil))) .nil [("part", 1)]) .nil))]
def F_read_states : Fn := runF 100 1 2 s_read_states
def ps_read_line : List Str := ["line"]
def N_read_line : List Str := ["line", "words"]
def s_read_line : List Sm := [.asg (.name 1) (.bm .split (.var 0) (.cons (.str " ") .nil)), .ite (.or (.cons (.cmp .NotEq (.bf .len (.cons (.var 1) .nil)) (.int 6)) (.cons (.cmp .NotEq .nev (.lst (.cons (.str "out") (.cons (.str "hits") (.cons (.str "puts") .nil))))) .nil))) [.ret .non] [], .ret (.tup (.cons (.call "read_number" (pureF F_read_number) (.cons (.idx (.var 1) (.int 1)) .nil)) (.cons (.call "read_states" (pureF F_read_states) (.cons (.idx (.var 1) (.int 3)) .nil)) (.cons (.call "read_states" (pureF F_read_states) (.cons (.idx (.var 1) (.int 5)) .nil)) .nil))))]
def F_read_line : Fn := runF 100 1 2 s_read_line
def ps_ways_of : List Str := ["value"]
def N_ways_of : List Str := ["value"]
def s_ways_of : List Sm := [.ite (.or (.cons (.nt (.isi (.var 0) (.bi "tuple") ["Pair", "Keeper"])) (.cons (.cmp .NotEq (.bf .len (.cons (.var 0) .nil)) (.int 3)) (.cons (.nt (.isi (.idx (.var 0) (.int 1)) (.bi "tuple") ["Pair", "Keeper"])) .nil)))) [.ret (.int 0)] [], .ret (.ite (.chn .LtE .LtE (.int 1) (.bf .len (.cons (.idx (.var 0) (.int 1)) .nil)) (.glo "MOST_WAYS" (.int 4))) (.bf .len (.cons (.idx (.var 0) (.int 1)) .nil)) (.int 0))]
def F_ways_of : Fn := runF 100 1 1 s_ways_of
def ps_are_states : List Str := ["value", "ways", "many"]
def N_are_states : List Str := ["value", "ways", "many", "state"]
def s_are_states : List Sm := [.ret (.and (.cons (.isi (.var 0) (.bi "tuple") ["Pair", "Keeper"]) (.cons (.cmp .Eq (.bf .len (.cons (.var 0) .nil)) (.var 1)) (.cons (.bf .all (.cons (.lc (.call "is_within" (pureF F_is_within) (.cons (.var 3) (.cons (.int 0) (.cons (.bin .Sub (.var 2) (.int 1)) .nil)))) (.name 3) (.lst (.var 0)) .nil [("state", 3)]) .nil)) .nil))))]
def F_are_states : Fn := runF 100 3 4 s_are_states
def ps_is_line : List Str := ["value", "ways", "many"]
def N_is_line : List Str := ["value", "ways", "many"]
def s_is_line : List Sm := [.ite (.or (.cons (.nt (.isi (.var 0) (.bi "tuple") ["Pair", "Keeper"])) (.cons (.cmp .NotEq (.bf .len (.cons (.var 0) .nil)) (.int 3)) (.cons (.nt (.call "is_within" (pureF F_is_within) (.cons (.idx (.var 0) (.int 0)) (.cons (.int 0) (.cons (.bin .Sub (.var 1) (.int 1)) .nil))))) .nil)))) [.ret (.bl false)] [], .ret (.and (.cons (.call "are_states" (pureF F_are_states) (.cons (.idx (.var 0) (.int 1)) (.cons (.var 1) (.cons (.var 2) .nil)))) (.cons (.call "are_states" (pureF F_are_states) (.cons (.idx (.var 0) (.int 2)) (.cons (.var 1) (.cons (.var 2) .nil)))) .nil)))]
def F_is_line : Fn := runF 100 3 3 s_is_line
def ps_wrong_line : List Str := ["rows"]
def N_wrong_line : List Str := ["rows", "ways", "at", "row"]
def s_wrong_line : List Sm := [.ite (.or (.cons (.nt (.isi (.var 0) (.bi "tuple") ["Pair", "Keeper"])) (.cons (.cmp .Eq (.bf .len (.cons (.var 0) .nil)) (.int 0)) .nil))) [.ret (.tup (.cons .non .nil))] [], .asg (.name 1) (.call "ways_of" (pureF F_ways_of) (.cons (.idx (.var 0) (.int 0)) .nil)), .loop (.tup (.cons (.name 2) (.cons (.name 3) .nil))) (.enumL (.var 0)) [.ite (.or (.cons (.cmp .Eq (.var 1) (.int 0)) (.cons (.cmp .GtE (.var 2) (.glo "MOST_STATES" (.int 40))) (.cons (.nt (.call "is_line" (pureF F_is_line) (.cons (.var 3) (.cons (.var 1) (.cons (.bf .len (.cons (.var 0) .nil)) .nil))))) .nil)))) [.ret (.tup (.cons (.var 2) .nil))] []], .ret (.tup .nil)]
def F_wrong_line : Fn := runF 100 1 4 s_wrong_line
def ps_read_keeper : List Str := ["text"]
def N_read_keeper : List Str := ["text", "rows", "line"]
def s_read_keeper : List Sm := [.ite (.nt (.isi (.var 0) (.bi "str") ["Pair", "Keeper"])) [.ret .non] [], .asg (.name 1) (.bf .tuple (.cons (.lc (.call "read_line" (pureF F_read_line) (.cons (.var 2) .nil)) (.name 2) (.lst (.bm .split (.var 0) (.cons (.str "\n") .nil))) .nil [("line", 2)]) .nil)), .ret (.ite (.cmp .Eq (.call "wrong_line" (pureF F_wrong_line) (.cons (.var 1) .nil)) (.tup .nil)) (.var 1) .non)]
def F_read_keeper : Fn := runF 100 1 3 s_read_keeper
def ps_Keeper_init : List Str := ["self", "rows"]
def N_Keeper_init : List Str := ["self", "rows", "wrong"]
def s_Keeper_init : List Sm := [.asg (.name 2) (.call "wrong_line" (pureF F_wrong_line) (.cons (.var 1) .nil)), .ite (.cmp .NotEq (.var 2) (.tup .nil)) [.never] [], .asg (.att "Keeper" (.var 0) "lines") (.var 1)]
def F_Keeper_init : Fn := runF 100 2 3 s_Keeper_init
def ps_begin : List Str := []
def N_begin : List Str := []
def s_begin : List Sm := [.ret (.tup (.cons (.int 0) (.cons (.int 0) (.cons (.tup .nil) (.cons (.int 0) .nil)))))]
def F_begin : Fn := runF 100 0 0 s_begin
def ps_asks_of : List Str := ["standing"]
def N_asks_of : List Str := ["standing", "found", "state", "under", "where", "filled", "way"]
def s_asks_of : List Sm := [.asg (.tup (.cons (.name 2) (.cons (.name 3) (.cons (.name 4) (.cons (.name 5) .nil))))) (.var 0), .asg (.name 1) (.lc (.tup (.cons (.glo "ABOVE" (.str "above")) (.cons (.var 6) .nil))) (.name 6) (.rng1 (.bf .len (.cons (.var 4) .nil))) .nil [("way", 6)]), .ret (.bin .Add (.bin .Add (.var 1) (.lc (.tup (.cons (.glo "BELOW" (.str "below")) (.cons (.var 6) .nil))) (.name 6) (.rng1 (.var 5)) (.cons (.cmp .NotIn (.var 6) (.var 4)) .nil) [("way", 6)])) (.lst (.cons (.tup (.cons (.glo "NEW" (.str "new")) (.cons (.int 0) .nil))) .nil)))]
def F_asks_of : Fn := runF 100 1 7 s_asks_of
def ps_Keeper_rows : List Str := ["self"]
def N_Keeper_rows : List Str := ["self"]
def s_Keeper_rows : List Sm := [.ret (.fld "Keeper" (.var 0) "lines")]
def F_Keeper_rows : Fn := runF 100 1 1 s_Keeper_rows
def ps_way_for : List Str := ["rows", "state", "filled"]
def N_way_for : List Str := ["rows", "state", "filled"]
def s_way_for : List Sm := [.ret (.ite (.cmp .Lt (.var 2) (.bf .len (.cons (.idx (.idx (.var 0) (.int 0)) (.int 1)) .nil))) (.var 2) (.idx (.idx (.var 0) (.var 1)) (.int 0)))]
def F_way_for : Fn := runF 100 3 3 s_way_for
def ps_heard : List Str := ["below", "standing", "way"]
def N_heard : List Str := ["below", "standing", "way", "state", "under", "where", "filled"]
def s_heard : List Sm := [.asg (.tup (.cons (.name 3) (.cons (.name 4) (.cons (.name 5) (.cons (.name 6) .nil))))) (.var 1), .ite (.cmp .IsNot (.var 2) .non) [.ret (.tup (.cons (.idx (.idx (.idx (.prp "Keeper" (.var 0) "rows" (noxF F_Keeper_rows)) (.var 4)) (.int 1)) (.var 2)) (.cons (.var 6) (.cons (.var 2) .nil))))] [], .asg (.name 2) (.call "way_for" (pureF F_way_for) (.cons (.prp "Keeper" (.var 0) "rows" (noxF F_Keeper_rows)) (.cons (.var 4) (.cons (.var 6) .nil)))), .ret (.tup (.cons (.idx (.idx (.idx (.prp "Keeper" (.var 0) "rows" (noxF F_Keeper_rows)) (.var 4)) (.int 2)) (.var 2)) (.cons (.bf .max2 (.cons (.var 6) (.cons (.bin .Add (.var 2) (.int 1)) .nil))) (.cons (.var 2) .nil))))]
def F_heard : Fn := runF 100 3 7 s_heard
def ps_after : List Str := ["above", "below", "told", "standing", "ask"]
def N_after : List Str := ["above", "below", "told", "standing", "ask", "high", "state", "under", "where", "filled", "word", "way", "low", "each"]
def s_after : List Sm := [.asg (.tup (.cons (.name 6) (.cons (.name 7) (.cons (.name 8) (.cons (.name 9) .nil))))) (.var 3), .asg (.tup (.cons (.name 10) (.cons (.name 11) .nil))) (.var 4), .ite (.cmp .Eq (.var 10) (.glo "ABOVE" (.str "above"))) [.ite (.cmp .Eq (.var 2) (.glo "ALL" (.str "all"))) [.asg (.name 7) (.idx (.call "heard" (pureF F_heard) (.cons (.var 1) (.cons (.var 3) (.cons (.idx (.var 8) (.var 11)) .nil)))) (.int 0))] [], .ret (.tup (.cons (.idx (.idx (.idx (.prp "Keeper" (.var 0) "rows" (noxF F_Keeper_rows)) (.var 6)) (.int 1)) (.var 11)) (.cons (.var 7) (.cons (.var 8) (.cons (.var 9) .nil)))))] [], .asg (.tup (.cons (.name 7) (.cons (.name 9) (.cons (.name 12) .nil)))) (.call "heard" (pureF F_heard) (.cons (.var 1) (.cons (.var 3) (.cons (.ite (.cmp .Eq (.var 10) (.glo "BELOW" (.str "below"))) (.var 11) .non) .nil)))), .ite (.cmp .Eq (.var 10) (.glo "NEW" (.str "new"))) [.asg (.name 8) (.bf .tuple (.cons (.lc (.ite (.cmp .Eq (.var 13) (.var 12)) .non (.var 13)) (.name 13) (.lst (.var 8)) .nil [("each", 13)]) .nil))] [], .asg (.name 5) (.call "way_for" (pureF F_way_for) (.cons (.prp "Keeper" (.var 0) "rows" (noxF F_Keeper_rows)) (.cons (.var 6) (.cons (.bf .len (.cons (.var 8) .nil)) .nil)))), .ret (.tup (.cons (.idx (.idx (.idx (.prp "Keeper" (.var 0) "rows" (noxF F_Keeper_rows)) (.var 6)) (.int 2)) (.var 5)) (.cons (.var 7) (.cons (.bin .Add (.bin .Add (.slc (.var 8) .nil (.cons (.var 5) .nil)) (.tup (.cons (.var 12) .nil))) (.slc (.var 8) (.cons (.bin .Add (.var 5) (.int 1)) .nil) .nil)) (.cons (.var 9) .nil)))))]
def F_after : Fn := runF 100 5 14 s_after
def ps_searched : List Str := ["above", "below", "told"]
def N_searched : List Str := ["above", "below", "told", "at", "known", "row", "ask", "later", "asks"]
def s_searched : List Sm := [.par2 4 5 .nev (.lstM (.cons (.call "begin" (pureF F_begin) .nil) .nil)), .asg (.name 3) (.int 0), .whl (.cmp .Lt (.var 3) (.bf .len (.cons (.var 5) .nil))) [.loop (.name 6) (.lst (.call "asks_of" (pureF F_asks_of) (.cons (.idx (.var 5) (.var 3)) .nil))) [.par2 7 8 (.call "after" (pureF F_after) (.cons (.var 0) (.cons (.var 1) (.cons (.var 2) (.cons (.idx (.var 5) (.var 3)) (.cons (.var 6) .nil)))))) (.bin .Add (.get (.var 4) (.idx (.var 5) (.var 3))) (.tup (.cons (.var 6) .nil))), .ite (.cmp .In .non (.idx (.var 7) (.int 2))) [.ret (.tup (.cons (.var 4) (.cons (.var 8) .nil)))] [], .ite (.cmp .NotIn (.var 7) (.var 4)) [.asg (.put (.var 4) (.var 7)) (.var 8), .exp (.bm .append (.var 5) (.cons (.var 7) .nil))] []], .aug 3 .Add (.int 1)], .ret (.tup (.cons (.var 4) (.cons .non .nil)))]
def F_searched : Fn := runF 100 3 9 s_searched
def ps_leaves_alone : List Str := ["above", "below", "told", "pieces"]
def N_leaves_alone : List Str := ["above", "below", "told", "pieces", "piece", "state", "under", "tops", "lows", "is_above", "way"]
def s_leaves_alone : List Sm := [.asg (.tup (.cons (.name 5) (.cons (.name 6) (.cons (.name 7) (.cons (.name 8) .nil))))) (.tup (.cons (.int 0) (.cons (.int 0) (.cons (.lstM .nil) (.cons (.lstM .nil) .nil))))), .loop (.name 4) (.lst (.var 3)) [.asg (.name 9) (.cmp .In (.var 4) (.var 7)), .ite (.or (.cons (.nt (.var 9)) (.cons (.cmp .Eq (.var 2) (.glo "ALL" (.str "all"))) .nil))) [.asg (.name 10) (.ite (.cmp .In (.var 4) (.var 8)) (.bm .lindex (.var 8) (.cons (.var 4) .nil)) (.call "way_for" (pureF F_way_for) (.cons (.prp "Keeper" (.var 1) "rows" (noxF F_Keeper_rows)) (.cons (.var 6) (.cons (.bf .len (.cons (.var 8) .nil)) .nil))))), .asg (.name 6) (.idx (.idx (.idx (.prp "Keeper" (.var 1) "rows" (noxF F_Keeper_rows)) (.var 6)) (.ite (.cmp .In (.var 4) (.var 8)) (.int 1) (.int 2))) (.var 10)), .never] [], .asg (.name 10) (.ite (.var 9) (.bm .lindex (.var 7) (.cons (.var 4) .nil)) (.call "way_for" (pureF F_way_for) (.cons (.prp "Keeper" (.var 0) "rows" (noxF F_Keeper_rows)) (.cons (.var 5) (.cons (.bf .len (.cons (.var 7) .nil)) .nil))))), .asg (.name 5) (.idx (.idx (.idx (.prp "Keeper" (.var 0) "rows" (noxF F_Keeper_rows)) (.var 5)) (.ite (.var 9) (.int 1) (.int 2))) (.var 10)), .never], .ret (.bf .any (.cons (.lc (.cmp .NotIn (.var 4) (.var 8)) (.name 4) (.lst (.var 7)) .nil [("piece", 4)]) .nil))]
def F_leaves_alone : Fn := runF 100 4 11 s_leaves_alone
def ps_is_numbered : List Str := ["value"]
def N_is_numbered : List Str := ["value", "fresh", "piece"]
def s_is_numbered : List Sm := [.ite (.or (.cons (.nt (.isi (.var 0) (.bi "tuple") ["Pair", "Keeper"])) (.cons (.cmp .Gt (.bf .len (.cons (.var 0) .nil)) (.glo "MOST_PLACES" (.int 2000))) .nil))) [.ret (.bl false)] [], .asg (.name 1) (.int 0), .loop (.name 2) (.lst (.var 0)) [.ite (.or (.cons (.nt (.call "is_integer" (pureF F_is_integer) (.cons (.var 2) .nil))) (.cons (.nt (.chn .LtE .LtE (.int 0) (.var 2) (.var 1))) .nil))) [.ret (.bl false)] [], .asg (.name 1) (.bf .max2 (.cons (.var 1) (.cons (.bin .Add (.var 2) (.int 1)) .nil)))], .ret (.bl true)]
def F_is_numbered : Fn := runF 100 1 3 s_is_numbered
def ps_keepers_shown : List Str := ["claim", "certificate"]
def N_keepers_shown : List Str := ["claim", "certificate", "first", "second", "above", "below"]
def s_keepers_shown : List Sm := [.par2 2 3 (.call "read_keeper" (pureF F_read_keeper) (.cons (.idx (.var 0) (.int 1)) .nil)) (.call "read_keeper" (pureF F_read_keeper) (.cons (.idx (.var 0) (.int 2)) .nil)), .ite (.or (.cons (.cmp .Is (.var 2) .non) (.cons (.cmp .Is (.var 3) .non) (.cons (.cmp .NotIn (.idx (.var 0) (.int 3)) (.tup (.cons (.glo "MISSES" (.str "misses")) (.cons (.glo "ALL" (.str "all")) .nil)))) .nil)))) [.ret (.bl false)] [], .par2 4 5 (.gen (newG "Keeper" F_Keeper_init) (.cons (.var 2) .nil)) (.gen (newG "Keeper" F_Keeper_init) (.cons (.var 3) .nil)), .ite (.cmp .Eq (.idx (.var 0) (.int 0)) (.str "closed")) [.ret (.and (.cons (.call "is_empty" (pureF F_is_empty) (.cons (.var 1) .nil)) (.cons (.cmp .Is (.idx (.call "searched" F_searched (.cons (.var 4) (.cons (.var 5) (.cons (.idx (.var 0) (.int 3)) .nil)))) (.int 1)) .non) .nil)))] [], .ret (.and (.cons (.cmp .Eq (.idx (.var 0) (.int 0)) (.str "open")) (.cons (.call "is_numbered" (pureF F_is_numbered) (.cons (.var 1) .nil)) (.cons (.call "leaves_alone" (pureF F_leaves_alone) (.cons (.var 4) (.cons (.var 5) (.cons (.idx (.var 0) (.int 3)) (.cons (.var 1) .nil))))) .nil))))]
def F_keepers_shown : Fn := runF 100 2 6 s_keepers_shown
def ps_accepts : List Str := ["claim", "certificate"]
def N_accepts : List Str := ["claim", "certificate"]
def s_accepts : List Sm := [.ite (.nt (.isi (.var 0) (.bi "tuple") ["Pair", "Keeper"])) [.ret (.bl false)] [], .ite (.cmp .Eq (.bf .len (.cons (.var 0) .nil)) (.int 2)) [.ret (.call "pair_shown" (pureF F_pair_shown) (.cons (.idx (.var 0) (.int 0)) (.cons (.idx (.var 0) (.int 1)) (.cons (.var 1) .nil))))] [], .ret (.and (.cons (.cmp .Eq (.bf .len (.cons (.var 0) .nil)) (.int 4)) (.cons (.call "keepers_shown" (pureF F_keepers_shown) (.cons (.var 0) (.cons (.var 1) .nil))) .nil)))]
def F_accepts : Fn := runF 100 2 2 s_accepts
def ps__law_purse : List Str := ["_law_script", "_law_k"]
def N__law_purse : List Str := ["_law_script", "_law_k", "_law_cell", "_law_figures", "_law_more"]
def s__law_purse : List Sm := [.asg (.name 2) (.ite (.cmp .Lt (.var 1) (.bf .len (.cons (.var 0) .nil))) (.idx (.var 0) (.var 1)) (.bin .Add (.bin .Mult (.int 4003) (.var 1)) (.int 67))), .ite (.cmp .GtE (.var 1) (.bf .len (.cons (.var 0) .nil))) [.loop (.name 4) (.lst (.slc (.var 0) .nil (.cons (.int 4) .nil))) [.asg (.name 2) (.bin .Mod (.bf .int (.cons (.bin .Add (.bin .Mult (.var 2) (.int 49031)) (.bin .Mult (.var 4) (.bin .Add (.var 1) (.int 9)))) .nil)) (.int 2147483353))]] [], .asg (.name 3) (.ite (.or (.cons (.cmp .Lt (.var 2) (.int 0)) (.cons (.cmp .GtE (.var 2) (.bin .Pow (.int 10) (.int 18))) .nil))) (.bf .abs (.cons (.var 2) .nil)) (.int 0)), .ret (.lstM (.cons (.bin .Mod (.bf .int (.cons (.var 2) .nil)) (.int 2147483323)) (.cons (.var 3) (.cons (.int 0) .nil))))]
def F__law_purse : Fn := runF 100 2 5 s__law_purse
def ps__law_number : List Str := ["_law_word"]
def N__law_number : List Str := ["_law_word", "_law_sign"]
def s__law_number : List Sm := [.ite (.or (.cons (.nt (.chn .Lt .Lt (.int 0) (.bf .len (.cons (.var 0) .nil)) (.int 60))) (.cons (.nt (.bf .all (.cons (.lc (.cmp .In (.var 1) (.str "0123456789")) (.name 1) (.lst (.var 0)) .nil [("_law_sign", 1)]) .nil))) .nil))) [.ret (.neg (.int 1))] [], .ret (.ite (.or (.cons (.cmp .Eq (.var 0) (.str "0")) (.cons (.cmp .NotEq (.idx (.var 0) (.int 0)) (.str "0")) .nil))) (.bf .int (.cons (.var 0) .nil)) (.neg (.int 1)))]
def F__law_number : Fn := runF 100 1 2 s__law_number
def ps__law_read : List Str := ["_law_line"]
def N__law_read : List Str := ["_law_line", "_law_words", "_law_numbers", "_law_hears", "_law_word"]
def s__law_read : List Sm := [.asg (.name 1) (.bm .split (.var 0) (.cons (.str " ") .nil)), .ite (.or (.cons (.nt (.chn .Lt .Lt (.int 9) (.bf .len (.cons (.var 1) .nil)) (.int 12))) (.cons (.cmp .NotEq (.lst (.cons (.idx (.var 1) (.int 0)) (.cons (.idx (.var 1) (.int 4)) (.cons (.idx (.var 1) (.int 8)) .nil)))) (.lst (.cons (.str "upper") (.cons (.str "lower") (.cons (.str "hears") .nil))))) .nil))) [.ret (.tup .nil)] [], .asg (.name 2) (.lc (.call "_law_number" (pureF F__law_number) (.cons (.var 4) .nil)) (.name 4) (.lst (.bin .Add (.slc (.var 1) (.cons (.int 1) .nil) (.cons (.int 4) .nil)) (.slc (.var 1) (.cons (.int 5) .nil) (.cons (.int 8) .nil)))) .nil [("_law_word", 4)]), .ite (.or (.cons (.cmp .Lt (.bf .min1 (.cons (.var 2) .nil)) (.int 1)) (.cons (.cmp .Gt (.bf .max1 (.cons (.var 2) .nil)) (.bin .Pow (.int 10) (.int 30))) (.cons (.cmp .NotEq (.bin .Mod (.bf .int (.cons (.idx (.var 2) (.int 5)) .nil)) (.bf .max2 (.cons (.int 1) (.cons (.idx (.var 2) (.int 2)) .nil)))) (.int 0)) .nil)))) [.ret (.tup .nil)] [], .asg (.name 3) (.idx (.var 1) (.int 9)), .ite (.cmp .Eq (.bf .len (.cons (.var 1) .nil)) (.int 11)) [.ite (.or (.cons (.cmp .NotEq (.var 3) (.str "each")) (.cons (.nt (.chn .LtE .LtE (.int 0) (.call "_law_number" (pureF F__law_number) (.cons (.idx (.var 1) (.int 10)) .nil)) (.bin .Pow (.int 10) (.int 30)))) .nil))) [.ret (.tup .nil)] [], .asg (.name 3) (.tup (.cons (.str "each") (.cons (.call "_law_number" (pureF F__law_number) (.cons (.idx (.var 1) (.int 10)) .nil)) .nil)))] [.ite (.cmp .NotIn (.var 3) (.lst (.cons (.str "misses") (.cons (.str "moved") .nil)))) [.ret (.tup .nil)] []], .ret (.tup (.cons (.bf .tuple (.cons (.slc (.var 2) .nil (.cons (.int 3) .nil)) .nil)) (.cons (.bf .tuple (.cons (.slc (.var 2) (.cons (.int 3) .nil) .nil) .nil)) (.cons (.var 3) .nil))))]
def F__law_read : Fn := runF 100 1 5 s__law_read
def ps__law_line_right_k84 : List Str := ["_law_line"]
def N__law_line_right_k84 : List Str := ["_law_line", "_law_found", "_law_never", "_law_step"]
def s__law_line_right_k84 : List Sm := [.asg (.name 1) (.call "_law_read" (pureF F__law_read) (.cons (.var 0) .nil)), .asg (.name 2) (.and (.cons (.cmp .NotEq (.var 1) (.tup .nil)) (.cons (.chn .Lt .LtE (.int 0) (.call "_law_least" (pureF F__law_least) (.cons (.var 1) .nil)) (.idx (.idx (.var 1) (.int 1)) (.int 1))) .nil))), .ite (.cmp .NotEq (.bf .repr (.cons (.call "accepts" (pureF F_accepts) (.cons (.tup (.cons (.str "never") (.cons (.var 0) .nil))) (.cons (.tup .nil) .nil))) .nil)) (.bf .repr (.cons (.var 2) .nil))) [.ret (.bl false)] [], .ite (.or (.cons (.call "accepts" (pureF F_accepts) (.cons (.tup (.cons (.str "ever") (.cons (.var 0) .nil))) (.cons (.tup .nil) .nil))) (.cons (.call "accepts" (pureF F_accepts) (.cons (.tup (.cons (.str "ever") (.cons (.var 0) .nil))) (.cons (.tup (.cons (.int 0) .nil)) .nil))) (.cons (.call "accepts" (pureF F_accepts) (.cons (.tup (.cons (.str "never") (.cons (.var 0) .nil))) (.cons (.tup (.cons (.int 0) .nil)) .nil))) .nil)))) [.ret (.bl false)] [], .asg (.name 3) (.ite (.cmp .NotEq (.var 1) (.tup .nil)) (.bin .Mult (.idx (.idx (.var 1) (.int 1)) (.int 0)) (.idx (.idx (.var 1) (.int 1)) (.int 2))) (.int 1)), .ite (.or (.cons (.cmp .Eq (.var 1) (.tup .nil)) (.cons (.cmp .Gt (.idx (.idx (.var 1) (.int 1)) (.int 1)) (.int 1)) (.cons (.cmp .Lt (.idx (.idx (.var 1) (.int 0)) (.int 1)) (.int 2)) (.cons (.cmp .GtE (.bin .Mult (.var 3) (.int 2)) (.bin .Mult (.bin .Pow (.int 10) (.int 60)) (.bin .Pow (.int 10) (.int 9)))) (.cons (.cmp .NotEq (.idx (.idx (.var 1) (.int 0)) (.int 0)) (.int 1)) .nil)))))) [.ret (.or (.cons (.cmp .NotEq (.var 1) (.tup .nil)) (.cons (.nt (.call "accepts" (pureF F_accepts) (.cons (.tup (.cons (.str "ever") (.cons (.var 0) .nil))) (.cons (.tup (.cons (.int 0) (.cons (.var 3) .nil))) .nil)))) .nil)))] [], .ret (.cmp .Eq (.bf .repr (.cons (.call "accepts" (pureF F_accepts) (.cons (.tup (.cons (.str "ever") (.cons (.var 0) .nil))) (.cons (.tup (.cons (.int 0) (.cons (.var 3) .nil))) .nil))) .nil)) (.str "True"))]
def F__law_line_right_k84 : Fn := runF 100 1 4 s__law_line_right_k84
def ps__law_text_k84 : List Str := ["_law_mine"]
def N__law_text_k84 : List Str := ["_law_mine", "_law_words", "_law_hears", "_law_number_here"]
def s__law_text_k84 : List Sm := [.asg (.name 1) (.lc (.bf .str (.cons (.var 3) .nil)) (.name 3) (.lst (.bin .Add (.idx (.var 0) (.int 0)) (.idx (.var 0) (.int 1)))) .nil [("_law_number_here", 3)]), .asg (.name 2) (.ite (.isi (.idx (.var 0) (.int 2)) (.bi "str") ["Pair", "Keeper"]) (.idx (.var 0) (.int 2)) (.bin .Add (.str "each ") (.bf .str (.cons (.idx (.idx (.var 0) (.int 2)) (.int 1)) .nil)))), .ret (.bm .join (.str " ") (.cons (.bin .Add (.bin .Add (.bin .Add (.bin .Add (.lst (.cons (.str "upper") .nil)) (.slc (.var 1) .nil (.cons (.int 3) .nil))) (.lst (.cons (.str "lower") .nil))) (.slc (.var 1) (.cons (.int 3) .nil) .nil)) (.lst (.cons (.str "hears") (.cons (.var 2) .nil)))) .nil))]
def F__law_text_k84 : Fn := runF 100 1 4 s__law_text_k84
def ps__law_bent_k84 : List Str := ["_law_purse_here", "_law_line"]
def N__law_bent_k84 : List Str := ["_law_purse_here", "_law_line", "_law_sign", "_law_words", "_law_spot", "_law_other", "_law_some", "_law_way", "_law_at", "_law_ahead", "_law_rest_here"]
def s__law_bent_k84 : List Sm := [.par2 7 8 (.call "_law_take" F__law_take (.cons (.var 0) (.cons (.int 8) .nil))) (.call "_law_take" F__law_take (.cons (.var 0) (.cons (.bin .Add (.bf .len (.cons (.var 1) .nil)) (.int 1)) .nil))), .asg (.name 2) (.idx (.str " \n0123456789upmsehX-,") (.call "_law_take" F__law_take (.cons (.var 0) (.cons (.int 21) .nil)))), .ite (.cmp .Lt (.var 7) (.int 3)) [.ret (.idx (.lst (.cons (.bin .Add (.bin .Add (.slc (.var 1) .nil (.cons (.var 8) .nil)) (.var 2)) (.slc (.var 1) (.cons (.var 8) .nil) .nil)) (.cons (.bin .Add (.slc (.var 1) .nil (.cons (.var 8) .nil)) (.slc (.var 1) (.cons (.bin .Add (.var 8) (.int 1)) .nil) .nil)) (.cons (.bin .Add (.bin .Add (.slc (.var 1) .nil (.cons (.var 8) .nil)) (.var 2)) (.slc (.var 1) (.cons (.bin .Add (.var 8) (.int 1)) .nil) .nil)) .nil)))) (.var 7))] [], .asg (.name 3) (.bm .split (.var 1) (.cons (.str " ") .nil)), .asg (.name 4) (.call "_law_take" F__law_take (.cons (.var 0) (.cons (.bf .len (.cons (.var 3) .nil)) .nil))), .par2 9 10 (.slc (.var 3) .nil (.cons (.var 4) .nil)) (.slc (.var 3) (.cons (.bin .Add (.var 4) (.int 1)) .nil) .nil), .asg (.name 5) (.call "_law_one" F__law_one (.cons (.var 0) (.cons (.lst (.cons (.str "0") (.cons (.str "1") (.cons (.str "2") (.cons (.str "12") (.cons (.str "00") (.cons (.str "moved") (.cons (.str "misses") (.cons (.str "each") (.cons (.str "lower") (.cons (.bf .str (.cons (.bin .Pow (.int 10) (.int 30)) .nil)) (.cons (.str "hears") .nil)))))))))))) .nil))), .asg (.name 6) (.lstM (.cons (.bin .Add (.bin .Add (.var 9) (.lst (.cons (.var 5) .nil))) (.var 10)) (.cons (.bin .Add (.var 9) (.var 10)) .nil))), .exp (.bm .append (.var 6) (.cons (.bin .Add (.bin .Add (.bin .Add (.var 9) (.slc (.var 10) .nil (.cons (.int 1) .nil))) (.slc (.var 3) (.cons (.var 4) .nil) (.cons (.bin .Add (.var 4) (.int 1)) .nil))) (.slc (.var 10) (.cons (.int 1) .nil) .nil)) .nil)), .ret (.bm .join (.str " ") (.cons (.idx (.bin .Add (.var 6) (.lst (.cons (.bin .Add (.bin .Add (.var 9) (.bin .Mult (.slc (.var 3) (.cons (.var 4) .nil) (.cons (.bin .Add (.var 4) (.int 1)) .nil)) (.int 2))) (.var 10)) (.cons (.bin .Add (.var 3) (.lst (.cons (.var 5) .nil))) .nil)))) (.bin .Sub (.var 7) (.int 3))) .nil))]
def F__law_bent_k84 : Fn := runF 100 2 11 s__law_bent_k84
def ps__law_right_k84 : List Str := ["_law_purse_here"]
def N__law_right_k84 : List Str := ["_law_purse_here", "_law_line", "_law_k"]
def s__law_right_k84 : List Sm := [.asg (.name 1) (.call "_law_text" (pureF F__law_text_k84) (.cons (.call "_law_duo" F__law_duo_k74 (.cons (.var 0) (.cons (.call "_law_one" F__law_one (.cons (.var 0) (.cons (.lst (.cons (.int 1) (.cons (.int 1) (.cons (.bin .Pow (.int 10) (.int 20)) .nil)))) .nil))) .nil))) .nil)), .loop (.name 2) (.rng1 (.bin .Add (.int 1) (.call "_law_take" F__law_take (.cons (.var 0) (.cons (.int 9) .nil))))) [.ite (.nt (.call "_law_line_right" (pureF F__law_line_right_k84) (.cons (.var 1) .nil))) [.ret (.bl false)] [], .asg (.name 1) (.call "_law_bent" F__law_bent_k84 (.cons (.var 0) (.cons (.var 1) .nil)))], .ret (.call "_law_line_right" (pureF F__law_line_right_k84) (.cons (.var 1) .nil))]
def F__law_right_k84 : Fn := runF 100 1 3 s__law_right_k84
def ps_law_k84 : List Str := ["_law_script"]
def N_law_k84 : List Str := ["_law_script", "_law_some", "_law_head", "_law_great", "_law_over", "_law_end", "_law_each", "_law_k", "_law_line"]
def s_law_k84 : List Sm := [.asg (.tup (.cons (.name 2) (.cons (.name 3) (.cons (.name 4) .nil)))) (.tup (.cons (.str "upper 1 2 3 lower 1 1 6 hears ") (.cons (.bf .str (.cons (.bin .Pow (.int 10) (.int 30)) .nil)) (.cons (.bf .str (.cons (.bin .Add (.bin .Pow (.int 10) (.int 30)) (.int 1)) .nil)) .nil)))), .asg (.name 1) (.lc (.bin .Add (.var 2) (.var 5)) (.name 5) (.lst (.lst (.cons (.str "misses") (.cons (.str "moved") (.cons (.str "each 0") (.cons (.str "each 7") (.cons (.str "each") (.cons (.str "each  7") (.cons (.str "each 07") (.cons (.str "each -1") .nil)))))))))) .nil [("_law_end", 5)]), .asg (.name 1) (.bin .Add (.var 1) (.lc (.bin .Add (.var 2) (.var 5)) (.name 5) (.lst (.lst (.cons (.bin .Add (.str "each ") (.var 3)) (.cons (.bin .Add (.str "each ") (.var 4)) (.cons (.str "moved 1") (.cons (.str "misses ") (.cons (.str "") (.cons (.str "all") .nil)))))))) .nil [("_law_end", 5)])), .asg (.name 1) (.bin .Add (.var 1) (.lc (.bin .Add (.bin .Add (.str "upper ") (.var 6)) (.str " 1 1 lower 1 1 1 hears moved")) (.name 6) (.lst (.lst (.cons (.var 3) (.cons (.var 4) (.cons (.str "0") (.cons (.str "01") .nil)))))) .nil [("_law_each", 6)])), .asg (.name 1) (.bin .Add (.var 1) (.lst (.cons (.str "upper 1 1 2 lower 1 1 3 hears moved") (.cons (.bin .Add (.bin .Add (.str " ") (.var 2)) (.str "moved")) (.cons (.str "") (.cons (.str "upper") (.cons (.str "upper 1 1 1 lower 1 1 1") .nil))))))), .asg (.name 1) (.bin .Add (.var 1) (.lst (.cons (.str "upper 1 1 1 lower 1 1 1 hears moved\n") (.cons (.str "Upper 1 1 1 lower 1 1 1 hears moved") .nil)))), .ite (.nt (.bf .all (.cons (.lc (.call "_law_line_right" (pureF F__law_line_right_k84) (.cons (.var 8) .nil)) (.name 8) (.lst (.var 1)) .nil [("_law_line", 8)]) .nil))) [.ret (.bl false)] [], .ret (.bf .all (.cons (.lc (.call "_law_right" F__law_right_k84 (.cons (.call "_law_purse" F__law_purse (.cons (.var 0) (.cons (.var 7) .nil))) .nil)) (.name 7) (.rng1 (.bf .max2 (.cons (.int 2) (.cons (.bf .min2 (.cons (.bf .len (.cons (.var 0) .nil)) (.cons (.int 5) .nil))) .nil)))) .nil [("_law_k", 7)]) .nil))]
def F_law_k84 : Fn := runF 100 1 9 s_law_k84
end PG
set_option Elab.async false
set_option linter.all false
set_option maxRecDepth 100000
set_option maxHeartbeats 0
namespace T84
open PySem PySem.Spec PyProof.Rows L2 ME PG
def top (i : Nat) : Stmt := PySem.Challenge.pw_shelfwithin_k84_whole_texts_of_pairs_in.main.body.getD i (.Pass ⟨0, 0, 0, 0⟩)
def d__law_number : DefA := ⟨fun K => He.ga K "_law_number", "_law_number", "_law_number", defArgs (top 70), defBody (top 70), defScope (top 70), []⟩
def d__law_read : DefA := ⟨fun K => He.ga K "_law_read", "_law_read", "_law_read", defArgs (top 71), defBody (top 71), defScope (top 71), []⟩
def d__law_least : DefA := ⟨fun K => He.ga K "_law_least", "_law_least", "_law_least", defArgs (top 68), defBody (top 68), defScope (top 68), []⟩
def d_read_number : DefA := ⟨fun K => He.ga K "read_number", "read_number", "read_number", defArgs (top 16), defBody (top 16), defScope (top 16), []⟩
def d_read_hears : DefA := ⟨fun K => He.ga K "read_hears", "read_hears", "read_hears", defArgs (top 34), defBody (top 34), defScope (top 34), []⟩
def d_is_integer : DefA := ⟨fun K => He.ga K "is_integer", "is_integer", "is_integer", defArgs (top 14), defBody (top 14), defScope (top 14), []⟩
def d_is_within : DefA := ⟨fun K => He.ga K "is_within", "is_within", "is_within", defArgs (top 15), defBody (top 15), defScope (top 15), []⟩
def d_wrong_number : DefA := ⟨fun K => He.ga K "wrong_number", "wrong_number", "wrong_number", defArgs (top 31), defBody (top 31), defScope (top 31), []⟩
def d_read_pair : DefA := ⟨fun K => He.ga K "read_pair", "read_pair", "read_pair", defArgs (top 35), defBody (top 35), defScope (top 35), []⟩
def d_is_hears : DefA := ⟨fun K => He.ga K "is_hears", "is_hears", "is_hears", defArgs (top 32), defBody (top 32), defScope (top 32), []⟩
def d_Pair_init : DefA := ⟨fun K => He.ma K (He.ga K "Pair") "__init__", "__init__", "Pair.__init__", defArgs (inClass (top 36) 0), defBody (inClass (top 36) 0), defScope (inClass (top 36) 0), [.str "misses"]⟩
def d_Pair_top : DefA := ⟨fun K => (propAt K "Pair" "top").2, "top", "Pair.top", defArgs (inClass (top 36) 2), defBody (inClass (top 36) 2), defScope (inClass (top 36) 2), []⟩
def d_Pair_bottom : DefA := ⟨fun K => (propAt K "Pair" "bottom").2, "bottom", "Pair.bottom", defArgs (inClass (top 36) 3), defBody (inClass (top 36) 3), defScope (inClass (top 36) 3), []⟩
def d_is_linked : DefA := ⟨fun K => He.ga K "is_linked", "is_linked", "is_linked", defArgs (top 54), defBody (top 54), defScope (top 54), []⟩
def d_ways_for : DefA := ⟨fun K => He.ga K "ways_for", "ways_for", "ways_for", defArgs (top 55), defBody (top 55), defScope (top 55), []⟩
def d_is_enough : DefA := ⟨fun K => He.ga K "is_enough", "is_enough", "is_enough", defArgs (top 56), defBody (top 56), defScope (top 56), []⟩
def d_Pair_hears : DefA := ⟨fun K => (propAt K "Pair" "hears").2, "hears", "Pair.hears", defArgs (inClass (top 36) 4), defBody (inClass (top 36) 4), defScope (inClass (top 36) 4), []⟩
def d_is_empty : DefA := ⟨fun K => He.ga K "is_empty", "is_empty", "is_empty", defArgs (top 58), defBody (top 58), defScope (top 58), []⟩
def d_Run_init : DefA := ⟨fun K => He.ma K (He.ga K "Run") "__init__", "__init__", "Run.__init__", defArgs (inClass (top 51) 0), defBody (inClass (top 51) 0), defScope (inClass (top 51) 0), [.bl false]⟩
def d_Run_tells : DefA := ⟨fun K => He.ma K (He.ga K "Run") "tells", "tells", "Run.tells", defArgs (inClass (top 51) 5), defBody (inClass (top 51) 5), defScope (inClass (top 51) 5), []⟩
def d_Run_below : DefA := ⟨fun K => He.ma K (He.ga K "Run") "below", "below", "Run.below", defArgs (inClass (top 51) 2), defBody (inClass (top 51) 2), defScope (inClass (top 51) 2), []⟩
def d_Run_take_back : DefA := ⟨fun K => He.ma K (He.ga K "Run") "take_back", "take_back", "Run.take_back", defArgs (inClass (top 51) 3), defBody (inClass (top 51) 3), defScope (inClass (top 51) 3), []⟩
def d_Run_hear : DefA := ⟨fun K => He.ma K (He.ga K "Run") "hear", "hear", "Run.hear", defArgs (inClass (top 51) 4), defBody (inClass (top 51) 4), defScope (inClass (top 51) 4), []⟩
def d_Run_ask : DefA := ⟨fun K => He.ma K (He.ga K "Run") "ask", "ask", "Run.ask", defArgs (inClass (top 51) 6), defBody (inClass (top 51) 6), defScope (inClass (top 51) 6), []⟩
def d_run_of : DefA := ⟨fun K => He.ga K "run_of", "run_of", "run_of", defArgs (top 52), defBody (top 52), defScope (top 52), []⟩
def d_Run_keeps : DefA := ⟨fun K => He.ma K (He.ga K "Run") "keeps", "keeps", "Run.keeps", defArgs (inClass (top 51) 7), defBody (inClass (top 51) 7), defScope (inClass (top 51) 7), []⟩
def d_Run_lonely : DefA := ⟨fun K => He.ma K (He.ga K "Run") "lonely", "lonely", "Run.lonely", defArgs (inClass (top 51) 8), defBody (inClass (top 51) 8), defScope (inClass (top 51) 8), []⟩
def d_wrong_ask : DefA := ⟨fun K => He.ga K "wrong_ask", "wrong_ask", "wrong_ask", defArgs (top 50), defBody (top 50), defScope (top 50), []⟩
def d_pair_shown : DefA := ⟨fun K => He.ga K "pair_shown", "pair_shown", "pair_shown", defArgs (top 60), defBody (top 60), defScope (top 60), []⟩
def d_read_states : DefA := ⟨fun K => He.ga K "read_states", "read_states", "read_states", defArgs (top 22), defBody (top 22), defScope (top 22), []⟩
def d_read_line : DefA := ⟨fun K => He.ga K "read_line", "read_line", "read_line", defArgs (top 23), defBody (top 23), defScope (top 23), []⟩
def d_ways_of : DefA := ⟨fun K => He.ga K "ways_of", "ways_of", "ways_of", defArgs (top 20), defBody (top 20), defScope (top 20), []⟩
def d_are_states : DefA := ⟨fun K => He.ga K "are_states", "are_states", "are_states", defArgs (top 18), defBody (top 18), defScope (top 18), []⟩
def d_is_line : DefA := ⟨fun K => He.ga K "is_line", "is_line", "is_line", defArgs (top 19), defBody (top 19), defScope (top 19), []⟩
def d_wrong_line : DefA := ⟨fun K => He.ga K "wrong_line", "wrong_line", "wrong_line", defArgs (top 21), defBody (top 21), defScope (top 21), []⟩
def d_read_keeper : DefA := ⟨fun K => He.ga K "read_keeper", "read_keeper", "read_keeper", defArgs (top 24), defBody (top 24), defScope (top 24), []⟩
def d_Keeper_init : DefA := ⟨fun K => He.ma K (He.ga K "Keeper") "__init__", "__init__", "Keeper.__init__", defArgs (inClass (top 25) 0), defBody (inClass (top 25) 0), defScope (inClass (top 25) 0), []⟩
def d_begin : DefA := ⟨fun K => He.ga K "begin", "begin", "begin", defArgs (top 45), defBody (top 45), defScope (top 45), []⟩
def d_asks_of : DefA := ⟨fun K => He.ga K "asks_of", "asks_of", "asks_of", defArgs (top 42), defBody (top 42), defScope (top 42), []⟩
def d_Keeper_rows : DefA := ⟨fun K => (propAt K "Keeper" "rows").2, "rows", "Keeper.rows", defArgs (inClass (top 25) 2), defBody (inClass (top 25) 2), defScope (inClass (top 25) 2), []⟩
def d_way_for : DefA := ⟨fun K => He.ga K "way_for", "way_for", "way_for", defArgs (top 26), defBody (top 26), defScope (top 26), []⟩
def d_heard : DefA := ⟨fun K => He.ga K "heard", "heard", "heard", defArgs (top 43), defBody (top 43), defScope (top 43), []⟩
def d_after : DefA := ⟨fun K => He.ga K "after", "after", "after", defArgs (top 44), defBody (top 44), defScope (top 44), []⟩
def d_searched : DefA := ⟨fun K => He.ga K "searched", "searched", "searched", defArgs (top 46), defBody (top 46), defScope (top 46), []⟩
def d_leaves_alone : DefA := ⟨fun K => He.ga K "leaves_alone", "leaves_alone", "leaves_alone", defArgs (top 47), defBody (top 47), defScope (top 47), []⟩
def d_is_numbered : DefA := ⟨fun K => He.ga K "is_numbered", "is_numbered", "is_numbered", defArgs (top 59), defBody (top 59), defScope (top 59), []⟩
def d_keepers_shown : DefA := ⟨fun K => He.ga K "keepers_shown", "keepers_shown", "keepers_shown", defArgs (top 61), defBody (top 61), defScope (top 61), []⟩
def d_accepts : DefA := ⟨fun K => He.ga K "accepts", "accepts", "accepts", defArgs (top 62), defBody (top 62), defScope (top 62), []⟩
def d__law_line_right_k84 : DefA := ⟨fun K => He.ga K "_law_line_right", "_law_line_right", "_law_line_right", defArgs (top 73), defBody (top 73), defScope (top 73), []⟩
def d__law_text_k84 : DefA := ⟨fun K => He.ga K "_law_text", "_law_text", "_law_text", defArgs (top 69), defBody (top 69), defScope (top 69), []⟩
def d__law_take : DefA := ⟨fun K => He.ga K "_law_take", "_law_take", "_law_take", defArgs (top 65), defBody (top 65), defScope (top 65), []⟩
def d__law_one : DefA := ⟨fun K => He.ga K "_law_one", "_law_one", "_law_one", defArgs (top 66), defBody (top 66), defScope (top 66), []⟩
def d__law_duo_k74 : DefA := ⟨fun K => He.ga K "_law_duo", "_law_duo", "_law_duo", defArgs (top 67), defBody (top 67), defScope (top 67), []⟩
def d__law_bent_k84 : DefA := ⟨fun K => He.ga K "_law_bent", "_law_bent", "_law_bent", defArgs (top 72), defBody (top 72), defScope (top 72), []⟩
def d__law_right_k84 : DefA := ⟨fun K => He.ga K "_law_right", "_law_right", "_law_right", defArgs (top 74), defBody (top 74), defScope (top 74), []⟩
def d__law_purse : DefA := ⟨fun K => He.ga K "_law_purse", "_law_purse", "_law_purse", defArgs (top 64), defBody (top 64), defScope (top 64), []⟩
def d_law_k84 : DefA := ⟨fun K => He.ga K "law", "law", "law", defArgs (top 75), defBody (top 75), defScope (top 75), []⟩
def fn : List DefA := [d__law_number, d__law_read, d__law_least, d_read_number, d_read_hears, d_is_integer, d_is_within, d_wrong_number, d_read_pair, d_is_hears, d_Pair_init, d_Pair_top, d_Pair_bottom, d_is_linked, d_ways_for, d_is_enough, d_Pair_hears, d_is_empty, d_Run_init, d_Run_tells, d_Run_below, d_Run_take_back, d_Run_hear, d_Run_ask, d_run_of, d_Run_keeps, d_Run_lonely, d_wrong_ask, d_pair_shown, d_read_states, d_read_line, d_ways_of, d_are_states, d_is_line, d_wrong_line, d_read_keeper, d_Keeper_init, d_begin, d_asks_of, d_Keeper_rows, d_way_for, d_heard, d_after, d_searched, d_leaves_alone, d_is_numbered, d_keepers_shown, d_accepts, d__law_line_right_k84, d__law_text_k84, d__law_take, d__law_one, d__law_duo_k74, d__law_bent_k84, d__law_right_k84, d__law_purse, d_law_k84]
def fx : List Fx := [.a (.free "len"),
  .a (.free "all"),
  .a (.free "int"),
  .a (.glo "_law_number"),
  .a (.free "min"),
  .a (.free "max"),
  .a (.free "tuple"),
  .a (.str "DIGITS" "0123456789"),
  .a (.free "str"),
  .a (.str "MISSES" "misses"),
  .a (.str "MOVED" "moved"),
  .a (.str "EACH" "each"),
  .a (.glo "read_number"),
  .a (.int "MOST_SIZE" 1000000000000000000000000000000),
  .a (.free "isinstance"),
  .insT "Pair",
  .kOB "Pair" "int",
  .insT "Keeper",
  .kOB "Keeper" "int",
  .a (.free "bool"),
  .kOB "Pair" "bool",
  .kOB "Keeper" "bool",
  .a (.glo "is_integer"),
  .kOB "Pair" "tuple",
  .kOB "Keeper" "tuple",
  .a (.free "enumerate"),
  .a (.glo "is_within"),
  .kOB "Pair" "str",
  .kOB "Keeper" "str",
  .a (.glo "read_hears"),
  .a (.glo "wrong_number"),
  .a (.glo "is_hears"),
  .a (.cls "Pair"),
  .a (.noat "Pair" "front"),
  .a (.noat "Pair" "back"),
  .a (.noat "Pair" "notes"),
  .prop "Pair" "top",
  .prop "Pair" "bottom",
  .a (.glo "is_linked"),
  .a (.glo "ways_for"),
  .a (.cls "Run"),
  .a (.noat "Run" "duo"),
  .a (.noat "Run" "takes_back"),
  .a (.noat "Run" "tops"),
  .a (.noat "Run" "lows"),
  .a (.noat "Run" "heard"),
  .a (.noat "Run" "missed"),
  .a (.noat "Run" "newest"),
  .a (.noat "Run" "noted"),
  .a (.noat "Run" "gone"),
  .prop "Pair" "hears",
  .a (.meth "Run" "below"),
  .a (.meth "Run" "take_back"),
  .a (.meth "Run" "tells"),
  .a (.meth "Run" "hear"),
  .a (.glo "Run"),
  .a (.mkr "Run"),
  .a (.meth "Run" "ask"),
  .a (.meth "Run" "keeps"),
  .a (.free "sorted"),
  .a (.int "MOST_PLACE" 9999999999999999999999999999999999999999999999999999999999999999999999),
  .a (.int "MOST_PLACES" 2000),
  .a (.glo "read_pair"),
  .a (.glo "Pair"),
  .a (.mkr "Pair"),
  .a (.glo "is_empty"),
  .a (.glo "is_enough"),
  .a (.glo "wrong_ask"),
  .a (.meth "Run" "lonely"),
  .a (.glo "run_of"),
  .a (.glo "read_states"),
  .a (.int "MOST_WAYS" 4),
  .a (.glo "are_states"),
  .a (.glo "ways_of"),
  .a (.int "MOST_STATES" 40),
  .a (.glo "is_line"),
  .a (.glo "read_line"),
  .a (.glo "wrong_line"),
  .a (.cls "Keeper"),
  .a (.noat "Keeper" "lines"),
  .a (.str "ABOVE" "above"),
  .a (.free "range"),
  .a (.str "BELOW" "below"),
  .a (.str "NEW" "new"),
  .prop "Keeper" "rows",
  .a (.glo "way_for"),
  .a (.str "ALL" "all"),
  .a (.glo "heard"),
  .a (.glo "begin"),
  .a (.glo "asks_of"),
  .a (.glo "after"),
  .a (.free "any"),
  .a (.glo "read_keeper"),
  .a (.glo "Keeper"),
  .a (.mkr "Keeper"),
  .a (.glo "searched"),
  .a (.glo "is_numbered"),
  .a (.glo "leaves_alone"),
  .a (.glo "pair_shown"),
  .a (.glo "keepers_shown"),
  .a (.glo "_law_read"),
  .a (.glo "_law_least"),
  .a (.free "repr"),
  .a (.glo "accepts"),
  .a (.free "divmod"),
  .a (.glo "_law_take"),
  .a (.glo "_law_one"),
  .a (.glo "_law_text"),
  .a (.glo "_law_duo"),
  .a (.glo "_law_line_right"),
  .a (.glo "_law_bent"),
  .a (.free "abs"),
  .a (.glo "_law_right"),
  .a (.glo "_law_purse"),
  .a (.glo "law")]
end T84
set_option Elab.async false
set_option linter.all false
set_option maxRecDepth 100000
set_option maxHeartbeats 4000000
/-! the head's run looked at in parts, so that no one kernel run is large -/
namespace ME
open PySem PySem.Spec PyProof.Rows L2
theorem obsX_app {fx1 fx2 : List Fx} {fn1 fn2 : List DefA} {K : PySem.W.Frag} (h1 : obsX fx1 fn1 K = valX fn1) (h2 : obsX fx2 fn2 K = valX fn2) : obsX (fx1 ++ fx2) (fn1 ++ fn2) K = valX (fn1 ++ fn2) := by
  unfold obsX valX at *
  simp only [Prod.mk.injEq, Bool.and_eq_true, List.all_append, List.map_append] at *
  exact ⟨⟨⟨h1.1.1, h2.1.1⟩, ⟨h1.1.2, h2.1.2⟩⟩, by rw [h1.2, h2.2]⟩
open HandSHeadRun PySem.W PySem.Calls in
/-- a look at the end of the run -/
def Look (r : PySem.W.OpenRow) (M : Nat) (w : World) {β : Type} (f : PySem.W.SharedT → β) (v : β) : Prop := ∀ os : OsState, (endF (stepQ (denQ tabQ) r.prog w) M r.prog w os).map f = some v
theorem Look.and {r : PySem.W.OpenRow} {M : Nat} {w : World} {β γ : Type} {f : PySem.W.SharedT → β} {v : β} {g : PySem.W.SharedT → γ} {u : γ} (h : Look r M w f v) (k : Look r M w g u) : Look r M w (fun s => (f s, g s)) (v, u) := fun os => by
  obtain ⟨s, e1, e2⟩ := Option.map_eq_some_iff.mp (h os)
  obtain ⟨s', e3, e4⟩ := Option.map_eq_some_iff.mp (k os)
  rw [e1] at e3
  cases e3
  rw [e1]
  show some (f s, g s) = _
  rw [e2, e4]
theorem Look.app {r : PySem.W.OpenRow} {M n : Nat} {w : World} {fx1 fx2 : List Fx} {fn1 fn2 : List DefA} (h : Look r M w (fun s => obsXG n fx1 fn1 (HandSHeadRun.getT s)) (valX fn1)) (k : Look r M w (fun s => obsXG n fx2 fn2 (HandSHeadRun.getT s)) (valX fn2)) :
    Look r M w (fun s => obsXG n (fx1 ++ fx2) (fn1 ++ fn2) (HandSHeadRun.getT s)) (valX (fn1 ++ fn2)) := fun os => by
  obtain ⟨s, e1, e2⟩ := Option.map_eq_some_iff.mp (h os)
  obtain ⟨s', e3, e4⟩ := Option.map_eq_some_iff.mp (k os)
  rw [e1] at e3
  cases e3
  rw [e1]
  show some (obsXG n (fx1 ++ fx2) (fn1 ++ fn2) (HandSHeadRun.getT s)) = _
  unfold obsXG at *
  rw [obsX_app e2 e4]
open HandSHeadRun PySem.W PySem.Calls in
theorem run_of {r : PySem.W.OpenRow} {q : Program} {H : PySem.W.Hook} {ob : PySem.W.SharedT → H.α} {M : Nat} {loose : List Str} {w : World} (h1 : Look r M w (fun s => looksF r.prog (boot_heap w.params) s.abs) true)
    (h2 : Look r M w (fun s => seenQ q loose (importedModules r.prog.main.body) (fun s => xlAt q [] s && recOk r.toRowW.records s) s.abs) (openGood q loose)) (h3 : Look r M w ob (H.val w)) :
    RunEq r q H ob M loose w := fun os => h1.and (h2.and h3) os
end ME
namespace ME
open PySem PySem.Spec PyProof.Rows L2
/-! the written part told by its addresses -/
def obsAG (as : List Addr) (fx : List Fx) (fn : List DefA) (g : Addr → Option Obj) : AlX := obsX fx fn (He.frG g as)
def hookA (as : List Addr) (fx : List Fx) (fn : List DefA) : PySem.W.Hook where
  α := AlX
  obs := fun s => obsAG as fx fn s.heap.get?
  val := fun _ => valX fn
  says := fun _ h => ∃ K : PySem.W.Frag, K.In h ∧ SaysX fx fn K
  of := fun _ _ e => ⟨_, He.frG_in, e⟩
  keeps := fun _ _ _ ⟨K, hK, c⟩ k => ⟨K, PySem.W.Frag.In.keeps hK k, c⟩
theorem obsAG_eq {as : List Addr} {fx : List Fx} {fn : List DefA} {g : Addr → Option Obj} {s : Shared} (h : ∀ a, g a = s.heap.get? a) : obsAG as fx fn g = (hookA as fx fn).obs s := by
  have e : g = s.heap.get? := funext h
  rw [e] <;> rfl
theorem Look.appA {r : PySem.W.OpenRow} {M : Nat} {as : List Addr} {w : World} {fx1 fx2 : List Fx} {fn1 fn2 : List DefA} (h : Look r M w (fun s => obsAG as fx1 fn1 (HandSHeadRun.getT s)) (valX fn1)) (k : Look r M w (fun s => obsAG as fx2 fn2 (HandSHeadRun.getT s)) (valX fn2)) :
    Look r M w (fun s => obsAG as (fx1 ++ fx2) (fn1 ++ fn2) (HandSHeadRun.getT s)) (valX (fn1 ++ fn2)) := fun os => by
  obtain ⟨s, e1, e2⟩ := Option.map_eq_some_iff.mp (h os)
  obtain ⟨s', e3, e4⟩ := Option.map_eq_some_iff.mp (k os)
  rw [e1] at e3
  cases e3
  rw [e1]
  show some (obsAG as (fx1 ++ fx2) (fn1 ++ fn2) (HandSHeadRun.getT s)) = _
  unfold obsAG at *
  rw [obsX_app e2 e4]
end ME
set_option Elab.async false
set_option linter.all false
set_option maxRecDepth 100000
set_option maxHeartbeats 0
namespace T84
open PySem PySem.W PySem.Spec PyProof.Rows L2 ME PG HandSHeadRun
def as0 : List Addr := [3, 6, 4, 21, 31, 51, 70, 89, 108, 127, 136, 143, 148, 153, 160, 167, 174, 179, 186, 191, 253, 264, 271, 278, 285, 292, 297, 368, 377, 384, 389, 396, 403, 408, 415, 481, 492, 499, 506, 513, 520, 527, 534, 541, 548, 555, 562, 569, 576, 583, 588, 593, 598, 605, 612, 619, 624, 0, 20, 30, 50, 69, 88, 107, 126, 135, 142, 147, 152, 159, 166, 173, 178, 185, 190, 252, 263, 270, 277, 284, 291, 296, 367, 376, 383, 388, 395, 402, 407, 414]
def as1 : List Addr := [480, 491, 498, 505, 512, 519, 526, 533, 540, 547, 554, 561, 568, 575, 582, 587, 592, 597, 604, 611, 618, 623, 15, 16, 17, 18, 19, 29, 32, 48, 49, 67, 68, 86, 87, 105, 106, 124, 125, 130, 131, 132, 133, 134, 137, 138, 139, 140, 141, 144, 145, 146, 149, 150, 151, 154, 155, 156, 157, 158, 161, 162, 163, 164, 165, 168, 169, 170, 171, 172, 175, 176, 177, 180, 181, 182, 183, 184, 187, 188, 189, 205, 214, 223, 231, 238, 245, 250, 251, 254]
def as2 : List Addr := [255, 258, 259, 260, 261, 262, 265, 266, 267, 268, 269, 272, 273, 274, 275, 276, 279, 280, 281, 282, 283, 286, 287, 288, 289, 290, 293, 294, 295, 312, 321, 330, 338, 346, 353, 360, 365, 366, 369, 370, 373, 374, 375, 378, 379, 380, 381, 382, 385, 386, 387, 390, 391, 392, 393, 394, 397, 398, 399, 400, 401, 404, 405, 406, 409, 410, 411, 412, 413, 430, 437, 444, 449, 454, 461, 466, 473, 478, 479, 482, 483, 486, 487, 488, 489, 490, 493, 494, 495, 496]
def as3 : List Addr := [497, 500, 501, 502, 503, 504, 507, 508, 509, 510, 511, 514, 515, 516, 517, 518, 521, 522, 523, 524, 525, 528, 529, 530, 531, 532, 535, 536, 537, 538, 539, 542, 543, 544, 545, 546, 549, 550, 551, 552, 553, 556, 557, 558, 559, 560, 563, 564, 565, 566, 567, 570, 571, 572, 573, 574, 577, 578, 579, 580, 581, 584, 585, 586, 589, 590, 591, 594, 595, 596, 599, 600, 601, 602, 603, 606, 607, 608, 609, 610, 613, 614, 615, 616, 617, 620, 621, 622, 47, 66]
def as4 : List Addr := [85, 104, 123, 204, 212, 213, 222, 230, 237, 244, 249, 311, 305, 319, 320, 329, 337, 345, 352, 359, 364, 429, 423, 436, 443, 448, 453, 460, 465, 472, 477, 42, 43, 44, 45, 46, 61, 62, 63, 64, 65, 80, 81, 82, 83, 84, 99, 100, 101, 102, 103, 118, 119, 120, 121, 122, 199, 200, 201, 202, 203, 211, 215, 221, 229, 232, 233, 234, 235, 236, 239, 240, 241, 242, 243, 246, 247, 248, 306, 307, 308, 309, 310, 318, 322, 328, 336, 344, 347, 348]
def as5 : List Addr := [349, 350, 351, 354, 355, 356, 357, 358, 361, 362, 363, 424, 425, 426, 427, 428, 431, 432, 433, 434, 435, 438, 439, 440, 441, 442, 445, 446, 447, 450, 451, 452, 455, 456, 457, 458, 459, 462, 463, 464, 467, 468, 469, 470, 471, 474, 475, 476, 206, 207, 208, 209, 210, 216, 217, 218, 219, 220, 224, 225, 226, 227, 228, 313, 314, 315, 316, 317, 323, 324, 325, 326, 327, 331, 332, 333, 334, 335, 339, 340, 341, 342, 343]
def asL : List Addr := as0 ++ (as1 ++ (as2 ++ (as3 ++ (as4 ++ (as5)))))
abbrev R : PySem.W.OpenRow := PySem.W.OpenLaw.row PySem.Challenge.rw_shelfwithin_k84_whole_texts_of_pairs_in
abbrev hk : PySem.W.Hook := hookA asL fx fn
def ob (s : PySem.W.SharedT) : AlX := obsAG asL fx fn (HandSHeadRun.getT s)
theorem ob_eq (s : PySem.W.SharedT) : ob s = hk.obs s.abs := obsAG_eq (HandSHeadRun.getT_eq s)
def names0 : List Str := ["_wall", "WrongValue", "InvalidText", "InvalidHears", "InvalidUpper", "InvalidLower", "InvalidTable", "MOST_SIZE", "MOST_PLACES", "MOST_WAYS", "MOST_STATES", "DIGITS", "is_integer", "is_within", "read_number", "are_states", "is_line", "ways_of", "wrong_line", "read_states"]
def names1 : List Str := ["read_line", "read_keeper", "Keeper", "way_for", "MISSES", "MOVED", "EACH", "wrong_number", "is_hears", "text_of", "read_hears", "read_pair", "Pair", "ALL", "ABOVE", "BELOW", "NEW", "asks_of", "heard", "after"]
def names2 : List Str := ["begin", "searched", "leaves_alone", "MOST_PLACE", "wrong_ask", "Run", "run_of", "is_linked", "ways_for", "is_enough", "is_empty", "is_numbered", "pair_shown", "keepers_shown", "accepts", "_law_purse", "_law_take", "_law_one", "_law_duo", "_law_least"]
def names3 : List Str := ["_law_text", "_law_number", "_law_read", "_law_bent", "_law_line_right", "_law_right"]
def names : List Str := names0 ++ names1 ++ names2 ++ names3
abbrev qv : Program := PySem.W.view R.prog [75]
theorem lk_b (w : World) : Look R 8000 w (fun s => looksF R.prog (boot_heap w.params) s.abs) true := by
  intro os
  kernel_rfl
theorem lk_c (w : World) : Look R 8000 w (fun s => seenQ qv names (importedModules R.prog.main.body) (fun s => xlAt qv [] s && recOk R.toRowW.records s) s.abs) (openGood qv names) := by
  intro os
  kernel_rfl
def fx0 : List Fx := [.a (.free "len"), .a (.free "all"), .a (.free "int"), .a (.glo "_law_number"), .a (.free "min"), .a (.free "max"), .a (.free "tuple"), .a (.str "DIGITS" "0123456789"), .a (.free "str"), .a (.str "MISSES" "misses"), .a (.str "MOVED" "moved"), .a (.str "EACH" "each"), .a (.glo "read_number"), .a (.int "MOST_SIZE" 1000000000000000000000000000000), .a (.free "isinstance"), .insT "Pair", .kOB "Pair" "int", .insT "Keeper", .kOB "Keeper" "int", .a (.free "bool"), .kOB "Pair" "bool", .kOB "Keeper" "bool", .a (.glo "is_integer"), .kOB "Pair" "tuple", .kOB "Keeper" "tuple", .a (.free "enumerate"), .a (.glo "is_within"), .kOB "Pair" "str", .kOB "Keeper" "str", .a (.glo "read_hears"), .a (.glo "wrong_number"), .a (.glo "is_hears"), .a (.cls "Pair"), .a (.noat "Pair" "front"), .a (.noat "Pair" "back"), .a (.noat "Pair" "notes"), .prop "Pair" "top", .prop "Pair" "bottom", .a (.glo "is_linked"), .a (.glo "ways_for"), .a (.cls "Run"), .a (.noat "Run" "duo"), .a (.noat "Run" "takes_back"), .a (.noat "Run" "tops"), .a (.noat "Run" "lows"), .a (.noat "Run" "heard"), .a (.noat "Run" "missed"), .a (.noat "Run" "newest"), .a (.noat "Run" "noted"), .a (.noat "Run" "gone"), .prop "Pair" "hears", .a (.meth "Run" "below"), .a (.meth "Run" "take_back"), .a (.meth "Run" "tells"), .a (.meth "Run" "hear"), .a (.glo "Run"), .a (.mkr "Run"), .a (.meth "Run" "ask"), .a (.meth "Run" "keeps"), .a (.free "sorted"), .a (.int "MOST_PLACE" 9999999999999999999999999999999999999999999999999999999999999999999999), .a (.int "MOST_PLACES" 2000), .a (.glo "read_pair"), .a (.glo "Pair"), .a (.mkr "Pair"), .a (.glo "is_empty"), .a (.glo "is_enough"), .a (.glo "wrong_ask"), .a (.meth "Run" "lonely"), .a (.glo "run_of"), .a (.glo "read_states"), .a (.int "MOST_WAYS" 4), .a (.glo "are_states"), .a (.glo "ways_of"), .a (.int "MOST_STATES" 40), .a (.glo "is_line"), .a (.glo "read_line"), .a (.glo "wrong_line"), .a (.cls "Keeper"), .a (.noat "Keeper" "lines"), .a (.str "ABOVE" "above"), .a (.free "range"), .a (.str "BELOW" "below"), .a (.str "NEW" "new"), .prop "Keeper" "rows", .a (.glo "way_for"), .a (.str "ALL" "all"), .a (.glo "heard"), .a (.glo "begin"), .a (.glo "asks_of"), .a (.glo "after"), .a (.free "any"), .a (.glo "read_keeper"), .a (.glo "Keeper"), .a (.mkr "Keeper"), .a (.glo "searched"), .a (.glo "is_numbered"), .a (.glo "leaves_alone"), .a (.glo "pair_shown"), .a (.glo "keepers_shown"), .a (.glo "_law_read"), .a (.glo "_law_least"), .a (.free "repr"), .a (.glo "accepts"), .a (.free "divmod"), .a (.glo "_law_take"), .a (.glo "_law_one"), .a (.glo "_law_text"), .a (.glo "_law_duo"), .a (.glo "_law_line_right"), .a (.glo "_law_bent"), .a (.free "abs"), .a (.glo "_law_right"), .a (.glo "_law_purse"), .a (.glo "law")]
def fn0 : List DefA := [d__law_number, d__law_read, d__law_least, d_read_number, d_read_hears, d_is_integer, d_is_within, d_wrong_number, d_read_pair, d_is_hears, d_Pair_init, d_Pair_top, d_Pair_bottom, d_is_linked, d_ways_for, d_is_enough, d_Pair_hears, d_is_empty, d_Run_init, d_Run_tells, d_Run_below, d_Run_take_back, d_Run_hear, d_Run_ask, d_run_of, d_Run_keeps, d_Run_lonely, d_wrong_ask, d_pair_shown, d_read_states, d_read_line, d_ways_of, d_are_states, d_is_line, d_wrong_line, d_read_keeper, d_Keeper_init, d_begin, d_asks_of, d_Keeper_rows, d_way_for, d_heard, d_after, d_searched, d_leaves_alone, d_is_numbered, d_keepers_shown, d_accepts, d__law_line_right_k84, d__law_text_k84, d__law_take, d__law_one, d__law_duo_k74, d__law_bent_k84, d__law_right_k84, d__law_purse, d_law_k84]
theorem lk_d0 (w : World) : Look R 8000 w (fun s => obsAG asL fx0 fn0 (HandSHeadRun.getT s)) (valX fn0) := by
  intro os
  kernel_rfl
theorem fx_eq : fx = fx0 := rfl
theorem fn_eq : fn = fn0 := rfl
theorem lk_d (w : World) : Look R 8000 w ob (hk.val w) := by
  show Look R 8000 w (fun s => obsAG asL fx fn (HandSHeadRun.getT s)) (valX fn)
  rw [fx_eq, fn_eq]
  exact (lk_d0 w)
theorem run (w : World) : HandSHeadRun.RunEq R qv hk ob 8000 names w := run_of (lk_b w) (lk_c w) (lk_d w)
end T84
set_option Elab.async false
set_option linter.all false
set_option maxRecDepth 100000
set_option maxHeartbeats 0
namespace T84
open PySem PySem.Spec PyProof.Rows L2 ME PG
theorem m__law_number : mSs N__law_number d__law_number.scope s__law_number d__law_number.body = true := by kernel_rfl
theorem sc__law_number : C8.scC N__law_number ps__law_number d__law_number.scope = true := by kernel_rfl
theorem m__law_read : mSs N__law_read d__law_read.scope s__law_read d__law_read.body = true := by kernel_rfl
theorem sc__law_read : C8.scC N__law_read ps__law_read d__law_read.scope = true := by kernel_rfl
theorem m__law_least : mSs N__law_least d__law_least.scope s__law_least d__law_least.body = true := by kernel_rfl
theorem sc__law_least : C8.scC N__law_least ps__law_least d__law_least.scope = true := by kernel_rfl
theorem m_read_number : mSs N_read_number d_read_number.scope s_read_number d_read_number.body = true := by kernel_rfl
theorem sc_read_number : C8.scC N_read_number ps_read_number d_read_number.scope = true := by kernel_rfl
theorem m_read_hears : mSs N_read_hears d_read_hears.scope s_read_hears d_read_hears.body = true := by kernel_rfl
theorem sc_read_hears : C8.scC N_read_hears ps_read_hears d_read_hears.scope = true := by kernel_rfl
theorem m_is_integer : mSs N_is_integer d_is_integer.scope s_is_integer d_is_integer.body = true := by kernel_rfl
theorem sc_is_integer : C8.scC N_is_integer ps_is_integer d_is_integer.scope = true := by kernel_rfl
theorem m_is_within : mSs N_is_within d_is_within.scope s_is_within d_is_within.body = true := by kernel_rfl
theorem sc_is_within : C8.scC N_is_within ps_is_within d_is_within.scope = true := by kernel_rfl
theorem m_wrong_number : mSs N_wrong_number d_wrong_number.scope s_wrong_number d_wrong_number.body = true := by kernel_rfl
theorem sc_wrong_number : C8.scC N_wrong_number ps_wrong_number d_wrong_number.scope = true := by kernel_rfl
theorem m_read_pair : mSs N_read_pair d_read_pair.scope s_read_pair d_read_pair.body = true := by kernel_rfl
theorem sc_read_pair : C8.scC N_read_pair ps_read_pair d_read_pair.scope = true := by kernel_rfl
theorem m_is_hears : mSs N_is_hears d_is_hears.scope s_is_hears d_is_hears.body = true := by kernel_rfl
theorem sc_is_hears : C8.scC N_is_hears ps_is_hears d_is_hears.scope = true := by kernel_rfl
theorem m_Pair_init : mSs N_Pair_init d_Pair_init.scope s_Pair_init d_Pair_init.body = true := by kernel_rfl
theorem sc_Pair_init : C8.scC N_Pair_init ps_Pair_init d_Pair_init.scope = true := by kernel_rfl
theorem m_Pair_top : mSs N_Pair_top d_Pair_top.scope s_Pair_top d_Pair_top.body = true := by kernel_rfl
theorem sc_Pair_top : C8.scC N_Pair_top ps_Pair_top d_Pair_top.scope = true := by kernel_rfl
theorem m_Pair_bottom : mSs N_Pair_bottom d_Pair_bottom.scope s_Pair_bottom d_Pair_bottom.body = true := by kernel_rfl
theorem sc_Pair_bottom : C8.scC N_Pair_bottom ps_Pair_bottom d_Pair_bottom.scope = true := by kernel_rfl
theorem m_is_linked : mSs N_is_linked d_is_linked.scope s_is_linked d_is_linked.body = true := by kernel_rfl
theorem sc_is_linked : C8.scC N_is_linked ps_is_linked d_is_linked.scope = true := by kernel_rfl
theorem m_ways_for : mSs N_ways_for d_ways_for.scope s_ways_for d_ways_for.body = true := by kernel_rfl
theorem sc_ways_for : C8.scC N_ways_for ps_ways_for d_ways_for.scope = true := by kernel_rfl
theorem m_is_enough : mSs N_is_enough d_is_enough.scope s_is_enough d_is_enough.body = true := by kernel_rfl
theorem sc_is_enough : C8.scC N_is_enough ps_is_enough d_is_enough.scope = true := by kernel_rfl
theorem m_Pair_hears : mSs N_Pair_hears d_Pair_hears.scope s_Pair_hears d_Pair_hears.body = true := by kernel_rfl
theorem sc_Pair_hears : C8.scC N_Pair_hears ps_Pair_hears d_Pair_hears.scope = true := by kernel_rfl
theorem m_is_empty : mSs N_is_empty d_is_empty.scope s_is_empty d_is_empty.body = true := by kernel_rfl
theorem sc_is_empty : C8.scC N_is_empty ps_is_empty d_is_empty.scope = true := by kernel_rfl
theorem m_Run_init : mSs N_Run_init d_Run_init.scope s_Run_init d_Run_init.body = true := by kernel_rfl
theorem sc_Run_init : C8.scC N_Run_init ps_Run_init d_Run_init.scope = true := by kernel_rfl
theorem m_Run_tells : mSs N_Run_tells d_Run_tells.scope s_Run_tells d_Run_tells.body = true := by kernel_rfl
theorem sc_Run_tells : C8.scC N_Run_tells ps_Run_tells d_Run_tells.scope = true := by kernel_rfl
theorem m_Run_below : mSs N_Run_below d_Run_below.scope s_Run_below d_Run_below.body = true := by kernel_rfl
theorem sc_Run_below : C8.scC N_Run_below ps_Run_below d_Run_below.scope = true := by kernel_rfl
theorem m_Run_take_back : mSs N_Run_take_back d_Run_take_back.scope s_Run_take_back d_Run_take_back.body = true := by kernel_rfl
theorem sc_Run_take_back : C8.scC N_Run_take_back ps_Run_take_back d_Run_take_back.scope = true := by kernel_rfl
theorem m_Run_hear : mSs N_Run_hear d_Run_hear.scope s_Run_hear d_Run_hear.body = true := by kernel_rfl
theorem sc_Run_hear : C8.scC N_Run_hear ps_Run_hear d_Run_hear.scope = true := by kernel_rfl
theorem m_Run_ask : mSs N_Run_ask d_Run_ask.scope s_Run_ask d_Run_ask.body = true := by kernel_rfl
theorem sc_Run_ask : C8.scC N_Run_ask ps_Run_ask d_Run_ask.scope = true := by kernel_rfl
theorem m_run_of : mSs N_run_of d_run_of.scope s_run_of d_run_of.body = true := by kernel_rfl
theorem sc_run_of : C8.scC N_run_of ps_run_of d_run_of.scope = true := by kernel_rfl
theorem m_Run_keeps : mSs N_Run_keeps d_Run_keeps.scope s_Run_keeps d_Run_keeps.body = true := by kernel_rfl
theorem sc_Run_keeps : C8.scC N_Run_keeps ps_Run_keeps d_Run_keeps.scope = true := by kernel_rfl
theorem m_Run_lonely : mSs N_Run_lonely d_Run_lonely.scope s_Run_lonely d_Run_lonely.body = true := by kernel_rfl
theorem sc_Run_lonely : C8.scC N_Run_lonely ps_Run_lonely d_Run_lonely.scope = true := by kernel_rfl
theorem m_wrong_ask : mSs N_wrong_ask d_wrong_ask.scope s_wrong_ask d_wrong_ask.body = true := by kernel_rfl
theorem sc_wrong_ask : C8.scC N_wrong_ask ps_wrong_ask d_wrong_ask.scope = true := by kernel_rfl
theorem m_pair_shown : mSs N_pair_shown d_pair_shown.scope s_pair_shown d_pair_shown.body = true := by kernel_rfl
theorem sc_pair_shown : C8.scC N_pair_shown ps_pair_shown d_pair_shown.scope = true := by kernel_rfl
theorem m_read_states : mSs N_read_states d_read_states.scope s_read_states d_read_states.body = true := by kernel_rfl
theorem sc_read_states : C8.scC N_read_states ps_read_states d_read_states.scope = true := by kernel_rfl
theorem m_read_line : mSs N_read_line d_read_line.scope s_read_line d_read_line.body = true := by kernel_rfl
theorem sc_read_line : C8.scC N_read_line ps_read_line d_read_line.scope = true := by kernel_rfl
theorem m_ways_of : mSs N_ways_of d_ways_of.scope s_ways_of d_ways_of.body = true := by kernel_rfl
theorem sc_ways_of : C8.scC N_ways_of ps_ways_of d_ways_of.scope = true := by kernel_rfl
theorem m_are_states : mSs N_are_states d_are_states.scope s_are_states d_are_states.body = true := by kernel_rfl
theorem sc_are_states : C8.scC N_are_states ps_are_states d_are_states.scope = true := by kernel_rfl
theorem m_is_line : mSs N_is_line d_is_line.scope s_is_line d_is_line.body = true := by kernel_rfl
theorem sc_is_line : C8.scC N_is_line ps_is_line d_is_line.scope = true := by kernel_rfl
theorem m_wrong_line : mSs N_wrong_line d_wrong_line.scope s_wrong_line d_wrong_line.body = true := by kernel_rfl
theorem sc_wrong_line : C8.scC N_wrong_line ps_wrong_line d_wrong_line.scope = true := by kernel_rfl
theorem m_read_keeper : mSs N_read_keeper d_read_keeper.scope s_read_keeper d_read_keeper.body = true := by kernel_rfl
theorem sc_read_keeper : C8.scC N_read_keeper ps_read_keeper d_read_keeper.scope = true := by kernel_rfl
theorem m_Keeper_init : mSs N_Keeper_init d_Keeper_init.scope s_Keeper_init d_Keeper_init.body = true := by kernel_rfl
theorem sc_Keeper_init : C8.scC N_Keeper_init ps_Keeper_init d_Keeper_init.scope = true := by kernel_rfl
theorem m_begin : mSs N_begin d_begin.scope s_begin d_begin.body = true := by kernel_rfl
theorem sc_begin : C8.scC N_begin ps_begin d_begin.scope = true := by kernel_rfl
theorem m_asks_of : mSs N_asks_of d_asks_of.scope s_asks_of d_asks_of.body = true := by kernel_rfl
theorem sc_asks_of : C8.scC N_asks_of ps_asks_of d_asks_of.scope = true := by kernel_rfl
theorem m_Keeper_rows : mSs N_Keeper_rows d_Keeper_rows.scope s_Keeper_rows d_Keeper_rows.body = true := by kernel_rfl
theorem sc_Keeper_rows : C8.scC N_Keeper_rows ps_Keeper_rows d_Keeper_rows.scope = true := by kernel_rfl
theorem m_way_for : mSs N_way_for d_way_for.scope s_way_for d_way_for.body = true := by kernel_rfl
theorem sc_way_for : C8.scC N_way_for ps_way_for d_way_for.scope = true := by kernel_rfl
theorem m_heard : mSs N_heard d_heard.scope s_heard d_heard.body = true := by kernel_rfl
theorem sc_heard : C8.scC N_heard ps_heard d_heard.scope = true := by kernel_rfl
theorem m_after : mSs N_after d_after.scope s_after d_after.body = true := by kernel_rfl
theorem sc_after : C8.scC N_after ps_after d_after.scope = true := by kernel_rfl
theorem m_searched : mSs N_searched d_searched.scope s_searched d_searched.body = true := by kernel_rfl
theorem sc_searched : C8.scC N_searched ps_searched d_searched.scope = true := by kernel_rfl
theorem m_leaves_alone : mSs N_leaves_alone d_leaves_alone.scope s_leaves_alone d_leaves_alone.body = true := by kernel_rfl
theorem sc_leaves_alone : C8.scC N_leaves_alone ps_leaves_alone d_leaves_alone.scope = true := by kernel_rfl
theorem m_is_numbered : mSs N_is_numbered d_is_numbered.scope s_is_numbered d_is_numbered.body = true := by kernel_rfl
theorem sc_is_numbered : C8.scC N_is_numbered ps_is_numbered d_is_numbered.scope = true := by kernel_rfl
theorem m_keepers_shown : mSs N_keepers_shown d_keepers_shown.scope s_keepers_shown d_keepers_shown.body = true := by kernel_rfl
theorem sc_keepers_shown : C8.scC N_keepers_shown ps_keepers_shown d_keepers_shown.scope = true := by kernel_rfl
theorem m_accepts : mSs N_accepts d_accepts.scope s_accepts d_accepts.body = true := by kernel_rfl
theorem sc_accepts : C8.scC N_accepts ps_accepts d_accepts.scope = true := by kernel_rfl
theorem m__law_line_right_k84 : mSs N__law_line_right_k84 d__law_line_right_k84.scope s__law_line_right_k84 d__law_line_right_k84.body = true := by kernel_rfl
theorem sc__law_line_right_k84 : C8.scC N__law_line_right_k84 ps__law_line_right_k84 d__law_line_right_k84.scope = true := by kernel_rfl
theorem m__law_text_k84 : mSs N__law_text_k84 d__law_text_k84.scope s__law_text_k84 d__law_text_k84.body = true := by kernel_rfl
theorem sc__law_text_k84 : C8.scC N__law_text_k84 ps__law_text_k84 d__law_text_k84.scope = true := by kernel_rfl
theorem m__law_take : mSs N__law_take d__law_take.scope s__law_take d__law_take.body = true := by kernel_rfl
theorem sc__law_take : C8.scC N__law_take ps__law_take d__law_take.scope = true := by kernel_rfl
theorem m__law_one : mSs N__law_one d__law_one.scope s__law_one d__law_one.body = true := by kernel_rfl
theorem sc__law_one : C8.scC N__law_one ps__law_one d__law_one.scope = true := by kernel_rfl
theorem m__law_duo_k74 : mSs N__law_duo_k74 d__law_duo_k74.scope s__law_duo_k74 d__law_duo_k74.body = true := by kernel_rfl
theorem sc__law_duo_k74 : C8.scC N__law_duo_k74 ps__law_duo_k74 d__law_duo_k74.scope = true := by kernel_rfl
theorem m__law_bent_k84 : mSs N__law_bent_k84 d__law_bent_k84.scope s__law_bent_k84 d__law_bent_k84.body = true := by kernel_rfl
theorem sc__law_bent_k84 : C8.scC N__law_bent_k84 ps__law_bent_k84 d__law_bent_k84.scope = true := by kernel_rfl
theorem m__law_right_k84 : mSs N__law_right_k84 d__law_right_k84.scope s__law_right_k84 d__law_right_k84.body = true := by kernel_rfl
theorem sc__law_right_k84 : C8.scC N__law_right_k84 ps__law_right_k84 d__law_right_k84.scope = true := by kernel_rfl
theorem m__law_purse : mSs N__law_purse d__law_purse.scope s__law_purse d__law_purse.body = true := by kernel_rfl
theorem sc__law_purse : C8.scC N__law_purse ps__law_purse d__law_purse.scope = true := by kernel_rfl
theorem m_law_k84 : mSs N_law_k84 d_law_k84.scope s_law_k84 d_law_k84.body = true := by kernel_rfl
theorem sc_law_k84 : C8.scC N_law_k84 ps_law_k84 d_law_k84.scope = true := by kernel_rfl
end T84
set_option Elab.async false
set_option linter.all false
set_option maxRecDepth 100000
set_option maxHeartbeats 0
namespace T84
open PySem PySem.Spec PyProof.Rows L2 ME PG
section
variable {P : Program} {w : World} {K : PySem.W.Frag} {mg : Str → Option Value} {base : Heap}
theorem okg__law_number (c : SaysX fx fn K) (XK : K.In base) (G : base.Ns mainGlobals mg) : ∃ fd, FunD K d__law_number.name d__law_number.qual d__law_number.params d__law_number.body d__law_number.scope (d__law_number.dvs K) [] (d__law_number.adr K) fd ∧ FnG P w K mg base 1 (d__law_number.adr K) fd ps__law_number (spS K ps__law_number.length F__law_number) := by
  obtain ⟨fd, F⟩ := c.def_ 0 (d := d__law_number) rfl
  exact ⟨fd, F, fn_sound F sc__law_number m__law_number fun A hr _ => (And.intro (And.intro (And.intro (And.intro trivial (And.intro (And.intro (He.free_ok XK G (c.fact 0 rfl)) (And.intro trivial trivial)) trivial)) (And.intro (And.intro (He.free_ok XK G (c.fact 1 rfl)) (And.intro (And.intro (And.intro trivial trivial) (And.intro trivial (And.intro trivial trivial))) trivial)) trivial)) (And.intro (And.intro trivial trivial) trivial)) (And.intro (And.intro (And.intro (And.intro trivial trivial) (And.intro (And.intro (And.intro trivial trivial) trivial) trivial)) (And.intro (And.intro (He.free_ok XK G (c.fact 2 rfl)) (And.intro trivial trivial)) trivial)) trivial))⟩
theorem okf__law_number (c : SaysX fx fn K) (XK : K.In base) (G : base.Ns mainGlobals mg) : FnF P w K mg base 1 (d__law_number.adr K) F__law_number := by
  obtain ⟨fd, F, H⟩ := okg__law_number (P := P) (w := w) c XK G
  exact FnF.mk_ H (FunD.bindsN F fun _ _ _ _ _ _ us hl => match us, hl with | [_], _ => rfl) F.kp
theorem okg__law_read (c : SaysX fx fn K) (XK : K.In base) (G : base.Ns mainGlobals mg) : ∃ fd, FunD K d__law_read.name d__law_read.qual d__law_read.params d__law_read.body d__law_read.scope (d__law_read.dvs K) [] (d__law_read.adr K) fd ∧ FnG P w K mg base 3 (d__law_read.adr K) fd ps__law_read (spS K ps__law_read.length F__law_read) := by
  obtain ⟨fd, F⟩ := c.def_ 1 (d := d__law_read) rfl
  have ok__law_number := okf__law_number (P := P) (w := w) c XK G
  exact ⟨fd, F, fn_sound F sc__law_read m__law_read fun A hr _ => (And.intro (And.intro trivial (And.intro trivial (And.intro trivial trivial))) (And.intro (And.intro (And.intro (And.intro trivial (And.intro (And.intro (He.free_ok XK G (c.fact 0 rfl)) (And.intro trivial trivial)) trivial)) (And.intro (And.intro (And.intro (And.intro trivial trivial) (And.intro (And.intro trivial trivial) (And.intro (And.intro trivial trivial) trivial))) (And.intro trivial (And.intro trivial (And.intro trivial trivial)))) trivial)) (And.intro (And.intro trivial trivial) trivial)) (And.intro (And.intro trivial (And.intro (And.intro (ok__law_number.pure.call (He.glo_ok XK G (c.fact 3 rfl)) hr (by decide)) (And.intro trivial trivial)) (And.intro trivial (And.intro (And.intro (And.intro trivial (And.intro (And.intro trivial trivial) (And.intro trivial trivial))) (And.intro trivial (And.intro (And.intro trivial trivial) (And.intro trivial trivial)))) trivial)))) (And.intro (And.intro (And.intro (And.intro (And.intro (He.free_ok XK G (c.fact 4 rfl)) (And.intro trivial trivial)) trivial) (And.intro (And.intro (And.intro (He.free_ok XK G (c.fact 5 rfl)) (And.intro trivial trivial)) (And.intro trivial trivial)) (And.intro (And.intro (And.intro (And.intro (He.free_ok XK G (c.fact 2 rfl)) (And.intro (And.intro trivial trivial) trivial)) (And.intro (He.free_ok XK G (c.fact 5 rfl)) (And.intro trivial (And.intro (And.intro trivial trivial) trivial)))) trivial) trivial))) (And.intro (And.intro trivial trivial) trivial)) (And.intro (And.intro trivial (And.intro trivial trivial)) (And.intro (And.intro (And.intro (And.intro (He.free_ok XK G (c.fact 0 rfl)) (And.intro trivial trivial)) trivial) (And.intro (And.intro (And.intro (And.intro (And.intro trivial trivial) (And.intro (And.intro trivial (And.intro (And.intro (ok__law_number.pure.call (He.glo_ok XK G (c.fact 3 rfl)) hr (by decide)) (And.intro (And.intro trivial trivial) trivial)) (And.intro trivial trivial))) trivial)) (And.intro (And.intro trivial trivial) trivial)) (And.intro (And.intro trivial (And.intro trivial (And.intro (And.intro (ok__law_number.pure.call (He.glo_ok XK G (c.fact 3 rfl)) hr (by decide)) (And.intro (And.intro trivial trivial) trivial)) trivial))) trivial)) (And.intro (And.intro (And.intro trivial (And.intro trivial (And.intro trivial trivial))) (And.intro (And.intro trivial trivial) trivial)) trivial))) (And.intro (And.intro (And.intro (He.free_ok XK G (c.fact 6 rfl)) (And.intro (And.intro trivial (And.intro trivial (And.intro trivial trivial))) trivial)) (And.intro (And.intro (He.free_ok XK G (c.fact 6 rfl)) (And.intro (And.intro trivial (And.intro (And.intro trivial trivial) trivial)) trivial)) (And.intro trivial trivial))) trivial)))))))⟩
theorem okf__law_read (c : SaysX fx fn K) (XK : K.In base) (G : base.Ns mainGlobals mg) : FnF P w K mg base 3 (d__law_read.adr K) F__law_read := by
  obtain ⟨fd, F, H⟩ := okg__law_read (P := P) (w := w) c XK G
  exact FnF.mk_ H (FunD.bindsN F fun _ _ _ _ _ _ us hl => match us, hl with | [_], _ => rfl) F.kp
theorem okg__law_least (c : SaysX fx fn K) (XK : K.In base) (G : base.Ns mainGlobals mg) : ∃ fd, FunD K d__law_least.name d__law_least.qual d__law_least.params d__law_least.body d__law_least.scope (d__law_least.dvs K) [] (d__law_least.adr K) fd ∧ FnG P w K mg base 1 (d__law_least.adr K) fd ps__law_least (spS K ps__law_least.length F__law_least) := by
  obtain ⟨fd, F⟩ := c.def_ 2 (d := d__law_least) rfl
  exact ⟨fd, F, fn_sound F sc__law_least m__law_least fun A hr _ => (And.intro (And.intro (And.intro trivial (And.intro trivial (And.intro trivial trivial))) trivial) (And.intro (And.intro (And.intro (And.intro (And.intro trivial trivial) trivial) (And.intro (And.intro (And.intro (And.intro trivial trivial) (And.intro trivial trivial)) (And.intro (And.intro (And.intro (And.intro (He.free_ok XK G (c.fact 2 rfl)) (And.intro (And.intro trivial trivial) trivial)) (And.intro trivial trivial)) trivial) trivial)) trivial)) (And.intro (And.intro trivial trivial) trivial)) (And.intro (And.intro (And.intro (And.intro trivial trivial) trivial) (And.intro (And.intro trivial trivial) trivial)) (And.intro (And.intro (And.intro trivial trivial) (And.intro (And.intro trivial trivial) trivial)) (And.intro (And.intro (And.intro trivial (And.intro trivial (And.intro (And.intro trivial (And.intro trivial trivial)) trivial))) (And.intro (And.intro trivial trivial) (And.intro (And.intro (And.intro trivial (And.intro trivial trivial)) (And.intro trivial trivial)) trivial))) trivial)))))⟩
theorem okf__law_least (c : SaysX fx fn K) (XK : K.In base) (G : base.Ns mainGlobals mg) : FnF P w K mg base 1 (d__law_least.adr K) F__law_least := by
  obtain ⟨fd, F, H⟩ := okg__law_least (P := P) (w := w) c XK G
  exact FnF.mk_ H (FunD.bindsN F fun _ _ _ _ _ _ us hl => match us, hl with | [_], _ => rfl) F.kp
theorem okg_read_number (c : SaysX fx fn K) (XK : K.In base) (G : base.Ns mainGlobals mg) : ∃ fd, FunD K d_read_number.name d_read_number.qual d_read_number.params d_read_number.body d_read_number.scope (d_read_number.dvs K) [] (d_read_number.adr K) fd ∧ FnG P w K mg base 1 (d_read_number.adr K) fd ps_read_number (spS K ps_read_number.length F_read_number) := by
  obtain ⟨fd, F⟩ := c.def_ 3 (d := d_read_number) rfl
  exact ⟨fd, F, fn_sound F sc_read_number m_read_number fun A hr _ => (And.intro (And.intro (And.intro (And.intro trivial trivial) (And.intro (And.intro (And.intro (He.free_ok XK G (c.fact 0 rfl)) (And.intro trivial trivial)) trivial) (And.intro (And.intro (He.free_ok XK G (c.fact 1 rfl)) (And.intro (And.intro (And.intro trivial (glo_str (He.str_ok XK G (c.fact 7 rfl)))) (And.intro trivial (And.intro trivial trivial))) trivial)) trivial))) (And.intro (And.intro trivial trivial) trivial)) (And.intro (And.intro trivial (And.intro (He.free_ok XK G (c.fact 2 rfl)) (And.intro trivial trivial))) (And.intro (And.intro (And.intro (And.intro (He.free_ok XK G (c.fact 8 rfl)) (And.intro trivial trivial)) trivial) (And.intro trivial trivial)) trivial)))⟩
theorem okf_read_number (c : SaysX fx fn K) (XK : K.In base) (G : base.Ns mainGlobals mg) : FnF P w K mg base 1 (d_read_number.adr K) F_read_number := by
  obtain ⟨fd, F, H⟩ := okg_read_number (P := P) (w := w) c XK G
  exact FnF.mk_ H (FunD.bindsN F fun _ _ _ _ _ _ us hl => match us, hl with | [_], _ => rfl) F.kp
theorem okg_read_hears (c : SaysX fx fn K) (XK : K.In base) (G : base.Ns mainGlobals mg) : ∃ fd, FunD K d_read_hears.name d_read_hears.qual d_read_hears.params d_read_hears.body d_read_hears.scope (d_read_hears.dvs K) [] (d_read_hears.adr K) fd ∧ FnG P w K mg base 3 (d_read_hears.adr K) fd ps_read_hears (spS K ps_read_hears.length F_read_hears) := by
  obtain ⟨fd, F⟩ := c.def_ 4 (d := d_read_hears) rfl
  have ok_read_number := okf_read_number (P := P) (w := w) c XK G
  exact ⟨fd, F, fn_sound F sc_read_hears m_read_hears fun A hr _ => (And.intro (And.intro (And.intro (And.intro (He.free_ok XK G (c.fact 0 rfl)) (And.intro trivial trivial)) trivial) (And.intro (And.intro (And.intro (And.intro (And.intro trivial trivial) (And.intro (glo_str (He.str_ok XK G (c.fact 9 rfl))) (And.intro (glo_str (He.str_ok XK G (c.fact 10 rfl))) trivial))) (And.intro (And.intro trivial trivial) trivial)) trivial) trivial)) (And.intro (And.intro trivial (And.intro (And.intro (And.intro (And.intro (He.free_ok XK G (c.fact 0 rfl)) (And.intro trivial trivial)) trivial) (And.intro (And.intro (And.intro trivial trivial) (glo_str (He.str_ok XK G (c.fact 11 rfl)))) trivial)) (And.intro (And.intro (ok_read_number.pure.call (He.glo_ok XK G (c.fact 12 rfl)) hr (by decide)) (And.intro (And.intro trivial trivial) trivial)) trivial))) (And.intro (And.intro (And.intro (And.intro trivial trivial) (And.intro (And.intro trivial (glo_int (He.int_ok XK G (c.fact 13 rfl)))) trivial)) (And.intro trivial (And.intro (glo_str (He.str_ok XK G (c.fact 11 rfl))) (And.intro trivial trivial)))) trivial)))⟩
theorem okf_read_hears (c : SaysX fx fn K) (XK : K.In base) (G : base.Ns mainGlobals mg) : FnF P w K mg base 3 (d_read_hears.adr K) F_read_hears := by
  obtain ⟨fd, F, H⟩ := okg_read_hears (P := P) (w := w) c XK G
  exact FnF.mk_ H (FunD.bindsN F fun _ _ _ _ _ _ us hl => match us, hl with | [_], _ => rfl) F.kp
theorem okg_is_integer (c : SaysX fx fn K) (XK : K.In base) (G : base.Ns mainGlobals mg) : ∃ fd, FunD K d_is_integer.name d_is_integer.qual d_is_integer.params d_is_integer.body d_is_integer.scope (d_is_integer.dvs K) [] (d_is_integer.adr K) fd ∧ FnG P w K mg base 1 (d_is_integer.adr K) fd ps_is_integer (spS K ps_is_integer.length F_is_integer) := by
  obtain ⟨fd, F⟩ := c.def_ 5 (d := d_is_integer) rfl
  exact ⟨fd, F, fn_sound F sc_is_integer m_is_integer fun A hr _ => (And.intro (And.intro (And.intro (isi_bi (He.free_ok XK G (c.fact 14 rfl)) (He.free_ok XK G (c.fact 2 rfl)) ME.boot_int (cs_cons (insT_ok (c.fact 15 rfl)) (kOB_ok (c.fact 16 rfl)) (cs_cons (insT_ok (c.fact 17 rfl)) (kOB_ok (c.fact 18 rfl)) (cs_nil)))) trivial) (And.intro (And.intro (isi_bi (He.free_ok XK G (c.fact 14 rfl)) (He.free_ok XK G (c.fact 19 rfl)) ME.boot_bool (cs_cons (insT_ok (c.fact 15 rfl)) (kOB_ok (c.fact 20 rfl)) (cs_cons (insT_ok (c.fact 17 rfl)) (kOB_ok (c.fact 21 rfl)) (cs_nil)))) trivial) trivial)) trivial)⟩
theorem okf_is_integer (c : SaysX fx fn K) (XK : K.In base) (G : base.Ns mainGlobals mg) : FnF P w K mg base 1 (d_is_integer.adr K) F_is_integer := by
  obtain ⟨fd, F, H⟩ := okg_is_integer (P := P) (w := w) c XK G
  exact FnF.mk_ H (FunD.bindsN F fun _ _ _ _ _ _ us hl => match us, hl with | [_], _ => rfl) F.kp
theorem okg_is_within (c : SaysX fx fn K) (XK : K.In base) (G : base.Ns mainGlobals mg) : ∃ fd, FunD K d_is_within.name d_is_within.qual d_is_within.params d_is_within.body d_is_within.scope (d_is_within.dvs K) [] (d_is_within.adr K) fd ∧ FnG P w K mg base 3 (d_is_within.adr K) fd ps_is_within (spS K ps_is_within.length F_is_within) := by
  obtain ⟨fd, F⟩ := c.def_ 6 (d := d_is_within) rfl
  have ok_is_integer := okf_is_integer (P := P) (w := w) c XK G
  exact ⟨fd, F, fn_sound F sc_is_within m_is_within fun A hr _ => (And.intro (And.intro (And.intro (ok_is_integer.pure.call (He.glo_ok XK G (c.fact 22 rfl)) hr (by decide)) (And.intro trivial trivial)) (And.intro (And.intro trivial (And.intro trivial trivial)) trivial)) trivial)⟩
theorem okf_is_within (c : SaysX fx fn K) (XK : K.In base) (G : base.Ns mainGlobals mg) : FnF P w K mg base 3 (d_is_within.adr K) F_is_within := by
  obtain ⟨fd, F, H⟩ := okg_is_within (P := P) (w := w) c XK G
  exact FnF.mk_ H (FunD.bindsN F fun _ _ _ _ _ _ us hl => match us, hl with | [_, _, _], _ => rfl) F.kp
theorem okg_wrong_number (c : SaysX fx fn K) (XK : K.In base) (G : base.Ns mainGlobals mg) : ∃ fd, FunD K d_wrong_number.name d_wrong_number.qual d_wrong_number.params d_wrong_number.body d_wrong_number.scope (d_wrong_number.dvs K) [] (d_wrong_number.adr K) fd ∧ FnG P w K mg base 5 (d_wrong_number.adr K) fd ps_wrong_number (spS K ps_wrong_number.length F_wrong_number) := by
  obtain ⟨fd, F⟩ := c.def_ 7 (d := d_wrong_number) rfl
  have ok_is_within := okf_is_within (P := P) (w := w) c XK G
  exact ⟨fd, F, fn_sound F sc_wrong_number m_wrong_number fun A hr _ => (And.intro (And.intro (And.intro (And.intro (isi_bi (He.free_ok XK G (c.fact 14 rfl)) (He.free_ok XK G (c.fact 6 rfl)) ME.boot_tuple (cs_cons (insT_ok (c.fact 15 rfl)) (kOB_ok (c.fact 23 rfl)) (cs_cons (insT_ok (c.fact 17 rfl)) (kOB_ok (c.fact 24 rfl)) (cs_nil)))) trivial) (And.intro (And.intro (And.intro (He.free_ok XK G (c.fact 0 rfl)) (And.intro trivial trivial)) trivial) trivial)) (And.intro (And.intro (And.intro trivial trivial) trivial) trivial)) (And.intro (And.intro (And.intro trivial (And.intro trivial trivial)) (And.intro (And.intro (He.free_ok XK G (c.fact 25 rfl)) trivial) (And.intro (And.intro (And.intro (ok_is_within.pure.call (He.glo_ok XK G (c.fact 26 rfl)) hr (by decide)) (And.intro trivial (And.intro trivial (And.intro (glo_int (He.int_ok XK G (c.fact 13 rfl))) trivial)))) (And.intro (And.intro (And.intro trivial trivial) trivial) trivial)) trivial))) (And.intro trivial trivial)))⟩
theorem okf_wrong_number (c : SaysX fx fn K) (XK : K.In base) (G : base.Ns mainGlobals mg) : FnF P w K mg base 5 (d_wrong_number.adr K) F_wrong_number := by
  obtain ⟨fd, F, H⟩ := okg_wrong_number (P := P) (w := w) c XK G
  exact FnF.mk_ H (FunD.bindsN F fun _ _ _ _ _ _ us hl => match us, hl with | [_], _ => rfl) F.kp
theorem okg_read_pair (c : SaysX fx fn K) (XK : K.In base) (G : base.Ns mainGlobals mg) : ∃ fd, FunD K d_read_pair.name d_read_pair.qual d_read_pair.params d_read_pair.body d_read_pair.scope (d_read_pair.dvs K) [] (d_read_pair.adr K) fd ∧ FnG P w K mg base 7 (d_read_pair.adr K) fd ps_read_pair (spS K ps_read_pair.length F_read_pair) := by
  obtain ⟨fd, F⟩ := c.def_ 8 (d := d_read_pair) rfl
  have ok_read_number := okf_read_number (P := P) (w := w) c XK G
  have ok_read_hears := okf_read_hears (P := P) (w := w) c XK G
  have ok_wrong_number := okf_wrong_number (P := P) (w := w) c XK G
  exact ⟨fd, F, fn_sound F sc_read_pair m_read_pair fun A hr _ => (And.intro (And.intro trivial (And.intro (And.intro (isi_bi (He.free_ok XK G (c.fact 14 rfl)) (He.free_ok XK G (c.fact 8 rfl)) ME.boot_str (cs_cons (insT_ok (c.fact 15 rfl)) (kOB_ok (c.fact 27 rfl)) (cs_cons (insT_ok (c.fact 17 rfl)) (kOB_ok (c.fact 28 rfl)) (cs_nil)))) trivial) (And.intro (And.intro trivial (And.intro trivial trivial)) trivial))) (And.intro (And.intro (And.intro (And.intro (And.intro (He.free_ok XK G (c.fact 0 rfl)) (And.intro trivial trivial)) trivial) (And.intro (And.intro (And.intro (And.intro trivial trivial) (And.intro (And.intro trivial trivial) (And.intro (And.intro trivial trivial) trivial))) (And.intro trivial (And.intro trivial (And.intro trivial trivial)))) trivial)) (And.intro (And.intro trivial trivial) trivial)) (And.intro (And.intro (And.intro trivial (And.intro trivial trivial)) (And.intro (And.intro (He.free_ok XK G (c.fact 6 rfl)) (And.intro (And.intro (And.intro (ok_read_number.pure.call (He.glo_ok XK G (c.fact 12 rfl)) hr (by decide)) (And.intro trivial trivial)) (And.intro trivial (And.intro trivial trivial))) trivial)) (And.intro trivial (And.intro (And.intro (And.intro trivial (And.intro (And.intro trivial trivial) (And.intro trivial trivial))) (And.intro (And.intro trivial (And.intro (And.intro trivial trivial) (And.intro trivial trivial))) trivial)) trivial)))) (And.intro (And.intro trivial (And.intro (ok_read_hears.pure.call (He.glo_ok XK G (c.fact 29 rfl)) hr (by decide)) (And.intro (And.intro trivial (And.intro (And.intro trivial trivial) trivial)) trivial))) (And.intro (And.intro (And.intro (And.intro trivial trivial) (And.intro (And.intro (And.intro (ok_wrong_number.pure.call (He.glo_ok XK G (c.fact 30 rfl)) hr (by decide)) (And.intro trivial trivial)) trivial) (And.intro (And.intro (And.intro (ok_wrong_number.pure.call (He.glo_ok XK G (c.fact 30 rfl)) hr (by decide)) (And.intro trivial trivial)) trivial) (And.intro (And.intro (And.intro (And.intro trivial trivial) (And.intro trivial trivial)) trivial) trivial)))) (And.intro (And.intro trivial trivial) trivial)) (And.intro (And.intro trivial (And.intro trivial (And.intro trivial trivial))) trivial))))))⟩
theorem okf_read_pair (c : SaysX fx fn K) (XK : K.In base) (G : base.Ns mainGlobals mg) : FnF P w K mg base 7 (d_read_pair.adr K) F_read_pair := by
  obtain ⟨fd, F, H⟩ := okg_read_pair (P := P) (w := w) c XK G
  exact FnF.mk_ H (FunD.bindsN F fun _ _ _ _ _ _ us hl => match us, hl with | [_], _ => rfl) F.kp
theorem okg_is_hears (c : SaysX fx fn K) (XK : K.In base) (G : base.Ns mainGlobals mg) : ∃ fd, FunD K d_is_hears.name d_is_hears.qual d_is_hears.params d_is_hears.body d_is_hears.scope (d_is_hears.dvs K) [] (d_is_hears.adr K) fd ∧ FnG P w K mg base 5 (d_is_hears.adr K) fd ps_is_hears (spS K ps_is_hears.length F_is_hears) := by
  obtain ⟨fd, F⟩ := c.def_ 9 (d := d_is_hears) rfl
  have ok_is_within := okf_is_within (P := P) (w := w) c XK G
  exact ⟨fd, F, fn_sound F sc_is_hears m_is_hears fun A hr _ => (And.intro (And.intro (And.intro (isi_bi (He.free_ok XK G (c.fact 14 rfl)) (He.free_ok XK G (c.fact 6 rfl)) ME.boot_tuple (cs_cons (insT_ok (c.fact 15 rfl)) (kOB_ok (c.fact 23 rfl)) (cs_cons (insT_ok (c.fact 17 rfl)) (kOB_ok (c.fact 24 rfl)) (cs_nil)))) trivial) (And.intro (And.intro (And.intro (And.intro (And.intro (He.free_ok XK G (c.fact 0 rfl)) (And.intro trivial trivial)) trivial) (And.intro (And.intro (And.intro trivial trivial) (glo_str (He.str_ok XK G (c.fact 11 rfl)))) (And.intro (And.intro (ok_is_within.pure.call (He.glo_ok XK G (c.fact 26 rfl)) hr (by decide)) (And.intro (And.intro trivial trivial) (And.intro trivial (And.intro (glo_int (He.int_ok XK G (c.fact 13 rfl))) trivial)))) trivial))) trivial) trivial)) (And.intro (And.intro trivial (And.intro (glo_str (He.str_ok XK G (c.fact 9 rfl))) (And.intro (glo_str (He.str_ok XK G (c.fact 10 rfl))) trivial))) trivial))⟩
theorem okf_is_hears (c : SaysX fx fn K) (XK : K.In base) (G : base.Ns mainGlobals mg) : FnF P w K mg base 5 (d_is_hears.adr K) F_is_hears := by
  obtain ⟨fd, F, H⟩ := okg_is_hears (P := P) (w := w) c XK G
  exact FnF.mk_ H (FunD.bindsN F fun _ _ _ _ _ _ us hl => match us, hl with | [_], _ => rfl) F.kp
theorem okg_Pair_init (c : SaysX fx fn K) (XK : K.In base) (G : base.Ns mainGlobals mg) : ∃ fd, FunD K d_Pair_init.name d_Pair_init.qual d_Pair_init.params d_Pair_init.body d_Pair_init.scope (d_Pair_init.dvs K) [] (d_Pair_init.adr K) fd ∧ FnG P w K mg base 7 (d_Pair_init.adr K) fd ps_Pair_init (spS K ps_Pair_init.length F_Pair_init) := by
  obtain ⟨fd, F⟩ := c.def_ 10 (d := d_Pair_init) rfl
  have ok_wrong_number := okf_wrong_number (P := P) (w := w) c XK G
  have ok_is_hears := okf_is_hears (P := P) (w := w) c XK G
  exact ⟨fd, F, fn_sound F sc_Pair_init m_Pair_init fun A hr _ => (And.intro (And.intro trivial (And.intro (ok_wrong_number.pure.call (He.glo_ok XK G (c.fact 30 rfl)) hr (by decide)) (And.intro trivial trivial))) (And.intro (And.intro (And.intro trivial trivial) (And.intro (And.intro trivial trivial) trivial)) (And.intro (And.intro trivial (And.intro (ok_wrong_number.pure.call (He.glo_ok XK G (c.fact 30 rfl)) hr (by decide)) (And.intro trivial trivial))) (And.intro (And.intro (And.intro trivial trivial) (And.intro (And.intro trivial trivial) trivial)) (And.intro (And.intro (And.intro (And.intro (And.intro trivial trivial) (And.intro trivial trivial)) trivial) (And.intro (And.intro trivial trivial) trivial)) (And.intro (And.intro (And.intro (ok_is_hears.pure.call (He.glo_ok XK G (c.fact 31 rfl)) hr (by decide)) (And.intro trivial trivial)) (And.intro (And.intro trivial trivial) trivial)) (And.intro (And.intro (And.intro (And.intro (He.cls_ok (c.fact 32 rfl)) (He.noat_ok (c.fact 33 rfl))) trivial) trivial) (And.intro (And.intro (And.intro (And.intro (He.cls_ok (c.fact 32 rfl)) (He.noat_ok (c.fact 34 rfl))) trivial) trivial) (And.intro (And.intro (And.intro (And.intro (He.cls_ok (c.fact 32 rfl)) (He.noat_ok (c.fact 35 rfl))) trivial) trivial) trivial)))))))))⟩
theorem okf_Pair_init (c : SaysX fx fn K) (XK : K.In base) (G : base.Ns mainGlobals mg) : FnF P w K mg base 7 (d_Pair_init.adr K) F_Pair_init := by
  obtain ⟨fd, F, H⟩ := okg_Pair_init (P := P) (w := w) c XK G
  obtain ⟨ds, hd, hb⟩ := FunD.binds1 (ps := ps_Pair_init) F 4 1 (by simp [DefA.dvs, d_Pair_init]) rfl (fun _ _ _ _ _ _ _ us its hl hi => match us, hl, its, hi with | [_, _, _, _], _, [_], _ => ⟨_, rfl, rfl⟩)
  cases hd
  exact FnF.mk_ H hb F.kp
theorem okg_Pair_top (c : SaysX fx fn K) (XK : K.In base) (G : base.Ns mainGlobals mg) : ∃ fd, FunD K d_Pair_top.name d_Pair_top.qual d_Pair_top.params d_Pair_top.body d_Pair_top.scope (d_Pair_top.dvs K) [] (d_Pair_top.adr K) fd ∧ FnG P w K mg base 1 (d_Pair_top.adr K) fd ps_Pair_top (spS K ps_Pair_top.length F_Pair_top) := by
  obtain ⟨fd, F⟩ := c.def_ 11 (d := d_Pair_top) rfl
  exact ⟨fd, F, fn_sound F sc_Pair_top m_Pair_top fun A hr _ => (And.intro (And.intro (And.intro (He.cls_ok (c.fact 32 rfl)) (He.noat_ok (c.fact 33 rfl))) trivial) trivial)⟩
theorem okf_Pair_top (c : SaysX fx fn K) (XK : K.In base) (G : base.Ns mainGlobals mg) : FnF P w K mg base 1 (d_Pair_top.adr K) F_Pair_top := by
  obtain ⟨fd, F, H⟩ := okg_Pair_top (P := P) (w := w) c XK G
  exact FnF.mk_ H (FunD.bindsN F fun _ _ _ _ _ _ us hl => match us, hl with | [_], _ => rfl) F.kp
theorem okg_Pair_bottom (c : SaysX fx fn K) (XK : K.In base) (G : base.Ns mainGlobals mg) : ∃ fd, FunD K d_Pair_bottom.name d_Pair_bottom.qual d_Pair_bottom.params d_Pair_bottom.body d_Pair_bottom.scope (d_Pair_bottom.dvs K) [] (d_Pair_bottom.adr K) fd ∧ FnG P w K mg base 1 (d_Pair_bottom.adr K) fd ps_Pair_bottom (spS K ps_Pair_bottom.length F_Pair_bottom) := by
  obtain ⟨fd, F⟩ := c.def_ 12 (d := d_Pair_bottom) rfl
  exact ⟨fd, F, fn_sound F sc_Pair_bottom m_Pair_bottom fun A hr _ => (And.intro (And.intro (And.intro (He.cls_ok (c.fact 32 rfl)) (He.noat_ok (c.fact 34 rfl))) trivial) trivial)⟩
theorem okf_Pair_bottom (c : SaysX fx fn K) (XK : K.In base) (G : base.Ns mainGlobals mg) : FnF P w K mg base 1 (d_Pair_bottom.adr K) F_Pair_bottom := by
  obtain ⟨fd, F, H⟩ := okg_Pair_bottom (P := P) (w := w) c XK G
  exact FnF.mk_ H (FunD.bindsN F fun _ _ _ _ _ _ us hl => match us, hl with | [_], _ => rfl) F.kp
theorem okg_is_linked (c : SaysX fx fn K) (XK : K.In base) (G : base.Ns mainGlobals mg) : ∃ fd, FunD K d_is_linked.name d_is_linked.qual d_is_linked.params d_is_linked.body d_is_linked.scope (d_is_linked.dvs K) [] (d_is_linked.adr K) fd ∧ FnG P w K mg base 3 (d_is_linked.adr K) fd ps_is_linked (spS K ps_is_linked.length F_is_linked) := by
  obtain ⟨fd, F⟩ := c.def_ 13 (d := d_is_linked) rfl
  have ok_Pair_top := okf_Pair_top (P := P) (w := w) c XK G
  have ok_Pair_bottom := okf_Pair_bottom (P := P) (w := w) c XK G
  exact ⟨fd, F, fn_sound F sc_is_linked m_is_linked fun A hr _ => (And.intro (And.intro (And.intro (ok_Pair_top.nox.prp (He.cls_ok (c.fact 32 rfl)) (prop_ok (c.fact 36 rfl)) hr (by decide) noxF_nx) trivial) (And.intro (ok_Pair_bottom.nox.prp (He.cls_ok (c.fact 32 rfl)) (prop_ok (c.fact 37 rfl)) hr (by decide) noxF_nx) trivial)) (And.intro (And.intro (And.intro (And.intro trivial trivial) trivial) (And.intro (And.intro (And.intro (And.intro trivial trivial) (And.intro trivial trivial)) (And.intro (And.intro (And.intro (And.intro trivial trivial) (And.intro trivial trivial)) trivial) trivial)) trivial)) trivial))⟩
theorem okf_is_linked (c : SaysX fx fn K) (XK : K.In base) (G : base.Ns mainGlobals mg) : FnF P w K mg base 3 (d_is_linked.adr K) F_is_linked := by
  obtain ⟨fd, F, H⟩ := okg_is_linked (P := P) (w := w) c XK G
  exact FnF.mk_ H (FunD.bindsN F fun _ _ _ _ _ _ us hl => match us, hl with | [_], _ => rfl) F.kp
theorem okg_ways_for (c : SaysX fx fn K) (XK : K.In base) (G : base.Ns mainGlobals mg) : ∃ fd, FunD K d_ways_for.name d_ways_for.qual d_ways_for.params d_ways_for.body d_ways_for.scope (d_ways_for.dvs K) [] (d_ways_for.adr K) fd ∧ FnG P w K mg base 5 (d_ways_for.adr K) fd ps_ways_for (spS K ps_ways_for.length F_ways_for) := by
  obtain ⟨fd, F⟩ := c.def_ 14 (d := d_ways_for) rfl
  have ok_Pair_top := okf_Pair_top (P := P) (w := w) c XK G
  have ok_is_linked := okf_is_linked (P := P) (w := w) c XK G
  exact ⟨fd, F, fn_sound F sc_ways_for m_ways_for fun A hr _ => (And.intro (And.intro trivial (And.intro (And.intro (ok_Pair_top.nox.prp (He.cls_ok (c.fact 32 rfl)) (prop_ok (c.fact 36 rfl)) hr (by decide) noxF_nx) trivial) trivial)) (And.intro (And.intro (And.intro (ok_is_linked.pure.call (He.glo_ok XK G (c.fact 38 rfl)) hr (by decide)) (And.intro trivial trivial)) (And.intro (And.intro trivial trivial) trivial)) (And.intro (And.intro (And.intro trivial trivial) (And.intro (And.intro trivial trivial) trivial)) (And.intro (And.intro (And.intro trivial (glo_str (He.str_ok XK G (c.fact 9 rfl)))) (And.intro (And.intro trivial trivial) trivial)) (And.intro (And.intro (And.intro trivial (And.intro (glo_str (He.str_ok XK G (c.fact 10 rfl))) (And.intro (And.intro (glo_str (He.str_ok XK G (c.fact 11 rfl))) (And.intro trivial trivial)) trivial))) (And.intro (And.intro trivial trivial) trivial)) (And.intro (And.intro (And.intro (And.intro trivial trivial) (And.intro trivial trivial)) trivial) trivial))))))⟩
theorem okf_ways_for (c : SaysX fx fn K) (XK : K.In base) (G : base.Ns mainGlobals mg) : FnF P w K mg base 5 (d_ways_for.adr K) F_ways_for := by
  obtain ⟨fd, F, H⟩ := okg_ways_for (P := P) (w := w) c XK G
  exact FnF.mk_ H (FunD.bindsN F fun _ _ _ _ _ _ us hl => match us, hl with | [_, _], _ => rfl) F.kp
theorem okg_is_enough (c : SaysX fx fn K) (XK : K.In base) (G : base.Ns mainGlobals mg) : ∃ fd, FunD K d_is_enough.name d_is_enough.qual d_is_enough.params d_is_enough.body d_is_enough.scope (d_is_enough.dvs K) [] (d_is_enough.adr K) fd ∧ FnG P w K mg base 7 (d_is_enough.adr K) fd ps_is_enough (spS K ps_is_enough.length F_is_enough) := by
  obtain ⟨fd, F⟩ := c.def_ 15 (d := d_is_enough) rfl
  have ok_ways_for := okf_ways_for (P := P) (w := w) c XK G
  have ok_Pair_bottom := okf_Pair_bottom (P := P) (w := w) c XK G
  exact ⟨fd, F, fn_sound F sc_is_enough m_is_enough fun A hr _ => (And.intro (And.intro trivial (And.intro (ok_ways_for.pure.call (He.glo_ok XK G (c.fact 39 rfl)) hr (by decide)) (And.intro trivial (And.intro trivial trivial)))) (And.intro (And.intro (And.intro trivial trivial) (And.intro (And.intro (And.intro (And.intro (ok_Pair_bottom.nox.prp (He.cls_ok (c.fact 32 rfl)) (prop_ok (c.fact 37 rfl)) hr (by decide) noxF_nx) trivial) trivial) trivial) trivial)) trivial))⟩
theorem okf_is_enough (c : SaysX fx fn K) (XK : K.In base) (G : base.Ns mainGlobals mg) : FnF P w K mg base 7 (d_is_enough.adr K) F_is_enough := by
  obtain ⟨fd, F, H⟩ := okg_is_enough (P := P) (w := w) c XK G
  exact FnF.mk_ H (FunD.bindsN F fun _ _ _ _ _ _ us hl => match us, hl with | [_, _], _ => rfl) F.kp
theorem okg_Pair_hears (c : SaysX fx fn K) (XK : K.In base) (G : base.Ns mainGlobals mg) : ∃ fd, FunD K d_Pair_hears.name d_Pair_hears.qual d_Pair_hears.params d_Pair_hears.body d_Pair_hears.scope (d_Pair_hears.dvs K) [] (d_Pair_hears.adr K) fd ∧ FnG P w K mg base 1 (d_Pair_hears.adr K) fd ps_Pair_hears (spS K ps_Pair_hears.length F_Pair_hears) := by
  obtain ⟨fd, F⟩ := c.def_ 16 (d := d_Pair_hears) rfl
  exact ⟨fd, F, fn_sound F sc_Pair_hears m_Pair_hears fun A hr _ => (And.intro (And.intro (And.intro (He.cls_ok (c.fact 32 rfl)) (He.noat_ok (c.fact 35 rfl))) trivial) trivial)⟩
theorem okf_Pair_hears (c : SaysX fx fn K) (XK : K.In base) (G : base.Ns mainGlobals mg) : FnF P w K mg base 1 (d_Pair_hears.adr K) F_Pair_hears := by
  obtain ⟨fd, F, H⟩ := okg_Pair_hears (P := P) (w := w) c XK G
  exact FnF.mk_ H (FunD.bindsN F fun _ _ _ _ _ _ us hl => match us, hl with | [_], _ => rfl) F.kp
theorem okg_is_empty (c : SaysX fx fn K) (XK : K.In base) (G : base.Ns mainGlobals mg) : ∃ fd, FunD K d_is_empty.name d_is_empty.qual d_is_empty.params d_is_empty.body d_is_empty.scope (d_is_empty.dvs K) [] (d_is_empty.adr K) fd ∧ FnG P w K mg base 1 (d_is_empty.adr K) fd ps_is_empty (spS K ps_is_empty.length F_is_empty) := by
  obtain ⟨fd, F⟩ := c.def_ 17 (d := d_is_empty) rfl
  exact ⟨fd, F, fn_sound F sc_is_empty m_is_empty fun A hr _ => (And.intro (And.intro (And.intro (isi_bi (He.free_ok XK G (c.fact 14 rfl)) (He.free_ok XK G (c.fact 6 rfl)) ME.boot_tuple (cs_cons (insT_ok (c.fact 15 rfl)) (kOB_ok (c.fact 23 rfl)) (cs_cons (insT_ok (c.fact 17 rfl)) (kOB_ok (c.fact 24 rfl)) (cs_nil)))) trivial) (And.intro (And.intro (And.intro (He.free_ok XK G (c.fact 0 rfl)) (And.intro trivial trivial)) trivial) trivial)) trivial)⟩
theorem okf_is_empty (c : SaysX fx fn K) (XK : K.In base) (G : base.Ns mainGlobals mg) : FnF P w K mg base 1 (d_is_empty.adr K) F_is_empty := by
  obtain ⟨fd, F, H⟩ := okg_is_empty (P := P) (w := w) c XK G
  exact FnF.mk_ H (FunD.bindsN F fun _ _ _ _ _ _ us hl => match us, hl with | [_], _ => rfl) F.kp
theorem okg_Run_init (c : SaysX fx fn K) (XK : K.In base) (G : base.Ns mainGlobals mg) : ∃ fd, FunD K d_Run_init.name d_Run_init.qual d_Run_init.params d_Run_init.body d_Run_init.scope (d_Run_init.dvs K) [] (d_Run_init.adr K) fd ∧ FnG P w K mg base 1 (d_Run_init.adr K) fd ps_Run_init (spS K ps_Run_init.length F_Run_init) := by
  obtain ⟨fd, F⟩ := c.def_ 18 (d := d_Run_init) rfl
  exact ⟨fd, F, fn_sound F sc_Run_init m_Run_init fun A hr _ => (And.intro (And.intro (And.intro (And.intro (He.cls_ok (c.fact 40 rfl)) (He.noat_ok (c.fact 41 rfl))) trivial) trivial) (And.intro (And.intro (And.intro (And.intro (He.cls_ok (c.fact 40 rfl)) (He.noat_ok (c.fact 42 rfl))) trivial) trivial) (And.intro (And.intro (And.intro (And.intro (He.cls_ok (c.fact 40 rfl)) (He.noat_ok (c.fact 43 rfl))) trivial) trivial) (And.intro (And.intro (And.intro (And.intro (He.cls_ok (c.fact 40 rfl)) (He.noat_ok (c.fact 44 rfl))) trivial) trivial) (And.intro (And.intro (And.intro (And.intro (He.cls_ok (c.fact 40 rfl)) (He.noat_ok (c.fact 45 rfl))) trivial) trivial) (And.intro (And.intro (And.intro (And.intro (He.cls_ok (c.fact 40 rfl)) (He.noat_ok (c.fact 46 rfl))) trivial) trivial) (And.intro (And.intro (And.intro (And.intro (He.cls_ok (c.fact 40 rfl)) (He.noat_ok (c.fact 47 rfl))) trivial) trivial) (And.intro (And.intro (And.intro (And.intro (He.cls_ok (c.fact 40 rfl)) (He.noat_ok (c.fact 48 rfl))) trivial) trivial) (And.intro (And.intro (And.intro (And.intro (He.cls_ok (c.fact 40 rfl)) (He.noat_ok (c.fact 49 rfl))) trivial) trivial) trivial)))))))))⟩
theorem okf_Run_init (c : SaysX fx fn K) (XK : K.In base) (G : base.Ns mainGlobals mg) : FnF P w K mg base 1 (d_Run_init.adr K) F_Run_init := by
  obtain ⟨fd, F, H⟩ := okg_Run_init (P := P) (w := w) c XK G
  obtain ⟨ds, hd, hb⟩ := FunD.binds1 (ps := ps_Run_init) F 3 1 (by simp [DefA.dvs, d_Run_init]) rfl (fun _ _ _ _ _ _ _ us its hl hi => match us, hl, its, hi with | [_, _, _], _, [_], _ => ⟨_, rfl, rfl⟩)
  cases hd
  exact FnF.mk_ H hb F.kp
theorem okdf1_Run_init (c : SaysX fx fn K) (XK : K.In base) (G : base.Ns mainGlobals mg) {A : Around} {j : Nat} (hx : mg "Run" = some (.ref (He.ga K "Run"))) (hm : Mk K (He.ga K "Run") (d_Run_init.adr K)) (hr : Room j A) (hj : 1 + 1 ≤ j) : NewOk ⟨P, w, K, mg, base, A⟩ "Run" Fd1_Run_init := by
  obtain ⟨fd, F, H⟩ := okg_Run_init (P := P) (w := w) c XK G
  obtain ⟨ds, hd, hb⟩ := FunD.binds1 (ps := ps_Run_init) F 2 0 (by simp [DefA.dvs, d_Run_init]) rfl (fun _ _ _ _ _ _ _ us its hl hi => match us, hl, its, hi with | [_, _], _, [_], _ => ⟨_, rfl, rfl⟩)
  exact FnG.newD (dd := [.bl false]) H hb hd (fun _ _ _ => (.cons .blI .nil)) hx hm hr hj
theorem okg_Run_tells (c : SaysX fx fn K) (XK : K.In base) (G : base.Ns mainGlobals mg) : ∃ fd, FunD K d_Run_tells.name d_Run_tells.qual d_Run_tells.params d_Run_tells.body d_Run_tells.scope (d_Run_tells.dvs K) [] (d_Run_tells.adr K) fd ∧ FnG P w K mg base 3 (d_Run_tells.adr K) fd ps_Run_tells (spS K ps_Run_tells.length F_Run_tells) := by
  obtain ⟨fd, F⟩ := c.def_ 19 (d := d_Run_tells) rfl
  have ok_Pair_hears := okf_Pair_hears (P := P) (w := w) c XK G
  exact ⟨fd, F, fn_sound F sc_Run_tells m_Run_tells fun A hr _ => (And.intro (And.intro trivial (And.intro (ok_Pair_hears.nox.prp (He.cls_ok (c.fact 32 rfl)) (prop_ok (c.fact 50 rfl)) hr (by decide) noxF_nx) (And.intro (And.intro (He.cls_ok (c.fact 40 rfl)) (He.noat_ok (c.fact 41 rfl))) trivial))) (And.intro (And.intro (And.intro trivial (glo_str (He.str_ok XK G (c.fact 9 rfl)))) (And.intro (And.intro trivial trivial) trivial)) (And.intro (And.intro (And.intro trivial (glo_str (He.str_ok XK G (c.fact 10 rfl)))) (And.intro (And.intro (And.intro (And.intro (And.intro (And.intro (He.cls_ok (c.fact 40 rfl)) (He.noat_ok (c.fact 47 rfl))) trivial) trivial) trivial) trivial) trivial)) (And.intro (And.intro (And.intro (And.intro (And.intro (And.intro (He.cls_ok (c.fact 40 rfl)) (He.noat_ok (c.fact 46 rfl))) trivial) (And.intro trivial (And.intro trivial trivial))) (And.intro (And.intro (And.intro (He.cls_ok (c.fact 40 rfl)) (He.noat_ok (c.fact 45 rfl))) trivial) trivial)) (And.intro trivial trivial)) trivial))))⟩
theorem okf_Run_tells (c : SaysX fx fn K) (XK : K.In base) (G : base.Ns mainGlobals mg) : FnF P w K mg base 3 (d_Run_tells.adr K) F_Run_tells := by
  obtain ⟨fd, F, H⟩ := okg_Run_tells (P := P) (w := w) c XK G
  exact FnF.mk_ H (FunD.bindsN F fun _ _ _ _ _ _ us hl => match us, hl with | [_, _, _], _ => rfl) F.kp
theorem okg_Run_below (c : SaysX fx fn K) (XK : K.In base) (G : base.Ns mainGlobals mg) : ∃ fd, FunD K d_Run_below.name d_Run_below.qual d_Run_below.params d_Run_below.body d_Run_below.scope (d_Run_below.dvs K) [] (d_Run_below.adr K) fd ∧ FnG P w K mg base 3 (d_Run_below.adr K) fd ps_Run_below (spS K ps_Run_below.length F_Run_below) := by
  obtain ⟨fd, F⟩ := c.def_ 20 (d := d_Run_below) rfl
  have ok_Pair_top := okf_Pair_top (P := P) (w := w) c XK G
  have ok_Pair_bottom := okf_Pair_bottom (P := P) (w := w) c XK G
  exact ⟨fd, F, fn_sound F sc_Run_below m_Run_below fun A hr _ => (And.intro (And.intro (And.intro trivial (And.intro (And.intro (ok_Pair_top.nox.prp (He.cls_ok (c.fact 32 rfl)) (prop_ok (c.fact 36 rfl)) hr (by decide) noxF_nx) (And.intro (And.intro (He.cls_ok (c.fact 40 rfl)) (He.noat_ok (c.fact 41 rfl))) trivial)) trivial)) (And.intro (And.intro (ok_Pair_bottom.nox.prp (He.cls_ok (c.fact 32 rfl)) (prop_ok (c.fact 37 rfl)) hr (by decide) noxF_nx) (And.intro (And.intro (He.cls_ok (c.fact 40 rfl)) (He.noat_ok (c.fact 41 rfl))) trivial)) trivial)) trivial)⟩
theorem okf_Run_below (c : SaysX fx fn K) (XK : K.In base) (G : base.Ns mainGlobals mg) : FnF P w K mg base 3 (d_Run_below.adr K) F_Run_below := by
  obtain ⟨fd, F, H⟩ := okg_Run_below (P := P) (w := w) c XK G
  exact FnF.mk_ H (FunD.bindsN F fun _ _ _ _ _ _ us hl => match us, hl with | [_, _], _ => rfl) F.kp
theorem okg_Run_take_back (c : SaysX fx fn K) (XK : K.In base) (G : base.Ns mainGlobals mg) : ∃ fd, FunD K d_Run_take_back.name d_Run_take_back.qual d_Run_take_back.params d_Run_take_back.body d_Run_take_back.scope (d_Run_take_back.dvs K) [] (d_Run_take_back.adr K) fd ∧ FnG P w K mg base 5 (d_Run_take_back.adr K) fd ps_Run_take_back (spS K ps_Run_take_back.length F_Run_take_back) := by
  obtain ⟨fd, F⟩ := c.def_ 21 (d := d_Run_take_back) rfl
  have ok_Run_below := okf_Run_below (P := P) (w := w) c XK G
  exact ⟨fd, F, fn_sound F sc_Run_take_back m_Run_take_back fun A hr _ => (And.intro (And.intro trivial trivial) (And.intro (And.intro (And.intro (He.cls_ok (c.fact 40 rfl)) (He.noat_ok (c.fact 43 rfl))) (And.intro (And.intro trivial (And.intro trivial trivial)) (And.intro (And.intro (And.intro trivial trivial) (And.intro trivial (And.intro trivial (And.intro trivial (And.intro (And.intro (And.intro (ok_Run_below.mth (He.cls_ok (c.fact 40 rfl)) (He.meth_ok (c.fact 51 rfl)) hr (by decide)) (And.intro trivial (And.intro trivial trivial))) trivial) trivial))))) (And.intro (And.intro trivial (And.intro (And.intro trivial (And.intro (He.free_ok XK G (c.fact 0 rfl)) (And.intro trivial trivial))) (And.intro (He.free_ok XK G (c.fact 0 rfl)) (And.intro (And.intro trivial trivial) trivial)))) trivial)))) (And.intro (And.intro (And.intro (And.intro (He.cls_ok (c.fact 40 rfl)) (He.noat_ok (c.fact 43 rfl))) trivial) trivial) (And.intro (And.intro (And.intro (And.intro (He.cls_ok (c.fact 40 rfl)) (He.noat_ok (c.fact 49 rfl))) trivial) (And.intro (And.intro (And.intro (He.cls_ok (c.fact 40 rfl)) (He.noat_ok (c.fact 49 rfl))) trivial) trivial)) trivial))))⟩
theorem okf_Run_take_back (c : SaysX fx fn K) (XK : K.In base) (G : base.Ns mainGlobals mg) : FnF P w K mg base 5 (d_Run_take_back.adr K) F_Run_take_back := by
  obtain ⟨fd, F, H⟩ := okg_Run_take_back (P := P) (w := w) c XK G
  exact FnF.mk_ H (FunD.bindsN F fun _ _ _ _ _ _ us hl => match us, hl with | [_, _], _ => rfl) F.kp
theorem okg_Run_hear (c : SaysX fx fn K) (XK : K.In base) (G : base.Ns mainGlobals mg) : ∃ fd, FunD K d_Run_hear.name d_Run_hear.qual d_Run_hear.params d_Run_hear.body d_Run_hear.scope (d_Run_hear.dvs K) [] (d_Run_hear.adr K) fd ∧ FnG P w K mg base 7 (d_Run_hear.adr K) fd ps_Run_hear (spS K ps_Run_hear.length F_Run_hear) := by
  obtain ⟨fd, F⟩ := c.def_ 22 (d := d_Run_hear) rfl
  have ok_Pair_bottom := okf_Pair_bottom (P := P) (w := w) c XK G
  have ok_Run_take_back := okf_Run_take_back (P := P) (w := w) c XK G
  exact ⟨fd, F, fn_sound F sc_Run_hear m_Run_hear fun A hr _ => (And.intro (And.intro (And.intro trivial (And.intro trivial (And.intro trivial trivial))) (And.intro (ok_Pair_bottom.nox.prp (He.cls_ok (c.fact 32 rfl)) (prop_ok (c.fact 37 rfl)) hr (by decide) noxF_nx) (And.intro (And.intro (He.cls_ok (c.fact 40 rfl)) (He.noat_ok (c.fact 41 rfl))) trivial))) (And.intro (And.intro trivial (And.intro (And.intro (And.intro (He.cls_ok (c.fact 40 rfl)) (He.noat_ok (c.fact 44 rfl))) trivial) (And.intro (And.intro trivial trivial) (And.intro trivial trivial)))) (And.intro (And.intro trivial (And.intro trivial trivial)) (And.intro (And.intro trivial (And.intro (And.intro (And.intro trivial (And.intro trivial (And.intro trivial (And.intro trivial (And.intro (And.intro trivial trivial) trivial))))) trivial) (And.intro (And.intro (And.intro (And.intro (He.free_ok XK G (c.fact 0 rfl)) (And.intro trivial trivial)) trivial) (And.intro (And.intro (And.intro (And.intro trivial trivial) (And.intro trivial (And.intro (And.intro trivial trivial) trivial))) (And.intro (And.intro (And.intro (And.intro (He.cls_ok (c.fact 40 rfl)) (He.noat_ok (c.fact 42 rfl))) trivial) (And.intro (And.intro (And.intro (ok_Run_take_back.mth (He.cls_ok (c.fact 40 rfl)) (He.meth_ok (c.fact 52 rfl)) hr (by decide)) (And.intro trivial (And.intro trivial trivial))) trivial) trivial)) trivial)) trivial)) trivial))) (And.intro (And.intro (And.intro (And.intro (And.intro (He.cls_ok (c.fact 40 rfl)) (He.noat_ok (c.fact 44 rfl))) trivial) (And.intro trivial trivial)) (And.intro trivial (And.intro trivial trivial))) (And.intro trivial trivial))))))⟩
theorem okf_Run_hear (c : SaysX fx fn K) (XK : K.In base) (G : base.Ns mainGlobals mg) : FnF P w K mg base 7 (d_Run_hear.adr K) F_Run_hear := by
  obtain ⟨fd, F, H⟩ := okg_Run_hear (P := P) (w := w) c XK G
  exact FnF.mk_ H (FunD.bindsN F fun _ _ _ _ _ _ us hl => match us, hl with | [_, _], _ => rfl) F.kp
theorem okg_Run_ask (c : SaysX fx fn K) (XK : K.In base) (G : base.Ns mainGlobals mg) : ∃ fd, FunD K d_Run_ask.name d_Run_ask.qual d_Run_ask.params d_Run_ask.body d_Run_ask.scope (d_Run_ask.dvs K) [] (d_Run_ask.adr K) fd ∧ FnG P w K mg base 9 (d_Run_ask.adr K) fd ps_Run_ask (spS K ps_Run_ask.length F_Run_ask) := by
  obtain ⟨fd, F⟩ := c.def_ 23 (d := d_Run_ask) rfl
  have ok_Pair_top := okf_Pair_top (P := P) (w := w) c XK G
  have ok_Pair_bottom := okf_Pair_bottom (P := P) (w := w) c XK G
  have ok_Run_tells := okf_Run_tells (P := P) (w := w) c XK G
  have ok_Run_hear := okf_Run_hear (P := P) (w := w) c XK G
  exact ⟨fd, F, fn_sound F sc_Run_ask m_Run_ask fun A hr _ => (And.intro (And.intro (And.intro trivial (And.intro trivial (And.intro trivial trivial))) (And.intro (ok_Pair_top.nox.prp (He.cls_ok (c.fact 32 rfl)) (prop_ok (c.fact 36 rfl)) hr (by decide) noxF_nx) (And.intro (And.intro (He.cls_ok (c.fact 40 rfl)) (He.noat_ok (c.fact 41 rfl))) trivial))) (And.intro (And.intro (And.intro trivial (And.intro trivial trivial)) (And.intro (And.intro trivial trivial) (And.intro (And.intro trivial (And.intro (And.intro (ok_Pair_bottom.nox.prp (He.cls_ok (c.fact 32 rfl)) (prop_ok (c.fact 37 rfl)) hr (by decide) noxF_nx) (And.intro (And.intro (He.cls_ok (c.fact 40 rfl)) (He.noat_ok (c.fact 41 rfl))) trivial)) trivial)) trivial))) (And.intro (And.intro trivial (And.intro trivial trivial)) (And.intro (And.intro (And.intro trivial (And.intro (And.intro (And.intro (He.cls_ok (c.fact 40 rfl)) (He.noat_ok (c.fact 43 rfl))) trivial) (And.intro trivial (And.intro trivial trivial)))) (And.intro (And.intro (And.intro trivial (And.intro (ok_Run_tells.mth (He.cls_ok (c.fact 40 rfl)) (He.meth_ok (c.fact 53 rfl)) hr (by decide)) (And.intro trivial (And.intro trivial (And.intro trivial trivial))))) (And.intro (And.intro (And.intro (And.intro (And.intro (He.cls_ok (c.fact 40 rfl)) (He.noat_ok (c.fact 43 rfl))) trivial) trivial) (And.intro (And.intro trivial (And.intro trivial (And.intro (And.intro (And.intro (And.intro (He.cls_ok (c.fact 40 rfl)) (He.noat_ok (c.fact 43 rfl))) trivial) trivial) (And.intro (And.intro trivial trivial) trivial)))) (And.intro trivial trivial))) (And.intro (And.intro (And.intro (And.intro (And.intro (He.cls_ok (c.fact 40 rfl)) (He.noat_ok (c.fact 47 rfl))) trivial) trivial) trivial) (And.intro (And.intro trivial (And.intro (And.intro (And.intro (ok_Run_hear.mth (He.cls_ok (c.fact 40 rfl)) (He.meth_ok (c.fact 54 rfl)) hr (by decide)) (And.intro trivial (And.intro trivial trivial))) (And.intro (And.intro (And.intro (And.intro (And.intro (He.cls_ok (c.fact 40 rfl)) (He.noat_ok (c.fact 45 rfl))) trivial) trivial) (And.intro (And.intro (And.intro (He.cls_ok (c.fact 40 rfl)) (He.noat_ok (c.fact 46 rfl))) trivial) (And.intro trivial (And.intro trivial trivial)))) (And.intro (And.intro (And.intro (And.intro (He.cls_ok (c.fact 40 rfl)) (He.noat_ok (c.fact 48 rfl))) trivial) (And.intro (And.intro (And.intro (He.cls_ok (c.fact 40 rfl)) (He.noat_ok (c.fact 48 rfl))) trivial) trivial)) trivial))) trivial)) (And.intro (And.intro trivial (And.intro trivial trivial)) trivial))))) trivial)) (And.intro (And.intro (And.intro (And.intro (And.intro (He.cls_ok (c.fact 40 rfl)) (He.noat_ok (c.fact 46 rfl))) trivial) trivial) (And.intro (And.intro (And.intro (And.intro (He.cls_ok (c.fact 40 rfl)) (He.noat_ok (c.fact 46 rfl))) trivial) (And.intro trivial (And.intro trivial trivial))) trivial)) (And.intro (And.intro (And.intro (And.intro (And.intro (He.cls_ok (c.fact 40 rfl)) (He.noat_ok (c.fact 47 rfl))) trivial) trivial) trivial) (And.intro (And.intro trivial (And.intro (ok_Run_hear.mth (He.cls_ok (c.fact 40 rfl)) (He.meth_ok (c.fact 54 rfl)) hr (by decide)) (And.intro trivial (And.intro trivial trivial)))) (And.intro (And.intro (And.intro (And.intro (And.intro (He.cls_ok (c.fact 40 rfl)) (He.noat_ok (c.fact 45 rfl))) trivial) trivial) (And.intro (And.intro (And.intro (He.cls_ok (c.fact 40 rfl)) (He.noat_ok (c.fact 46 rfl))) trivial) trivial)) (And.intro (And.intro trivial (And.intro (And.intro (And.intro (He.cls_ok (c.fact 40 rfl)) (He.noat_ok (c.fact 43 rfl))) trivial) (And.intro trivial (And.intro trivial trivial)))) (And.intro (And.intro (And.intro (And.intro (And.intro (He.cls_ok (c.fact 40 rfl)) (He.noat_ok (c.fact 43 rfl))) trivial) trivial) (And.intro (And.intro (And.intro (And.intro (He.free_ok XK G (c.fact 0 rfl)) (And.intro trivial trivial)) trivial) (And.intro (And.intro trivial (And.intro (And.intro trivial trivial) trivial)) trivial)) (And.intro trivial trivial))) (And.intro (And.intro (And.intro trivial (And.intro trivial trivial)) (And.intro trivial trivial)) trivial)))))))))))⟩
theorem okf_Run_ask (c : SaysX fx fn K) (XK : K.In base) (G : base.Ns mainGlobals mg) : FnF P w K mg base 9 (d_Run_ask.adr K) F_Run_ask := by
  obtain ⟨fd, F, H⟩ := okg_Run_ask (P := P) (w := w) c XK G
  exact FnF.mk_ H (FunD.bindsN F fun _ _ _ _ _ _ us hl => match us, hl with | [_, _], _ => rfl) F.kp
theorem okg_run_of (c : SaysX fx fn K) (XK : K.In base) (G : base.Ns mainGlobals mg) : ∃ fd, FunD K d_run_of.name d_run_of.qual d_run_of.params d_run_of.body d_run_of.scope (d_run_of.dvs K) [] (d_run_of.adr K) fd ∧ FnG P w K mg base 11 (d_run_of.adr K) fd ps_run_of (spS K ps_run_of.length F_run_of) := by
  obtain ⟨fd, F⟩ := c.def_ 24 (d := d_run_of) rfl
  have okd1_Run_init := fun {A : Around} {j : Nat} => okdf1_Run_init (P := P) (w := w) (A := A) (j := j) c XK G
  have ok_Run_ask := okf_Run_ask (P := P) (w := w) c XK G
  exact ⟨fd, F, fn_sound F sc_run_of m_run_of fun A hr _ => (And.intro (And.intro (And.intro (okd1_Run_init (He.glo_ok XK G (c.fact 55 rfl)) (He.mkr_ok (c.fact 56 rfl)) hr (by decide)) (And.intro trivial trivial)) trivial) (And.intro (And.intro trivial (And.intro trivial (And.intro (And.intro trivial (And.intro (And.intro (ok_Run_ask.mth (He.cls_ok (c.fact 40 rfl)) (He.meth_ok (c.fact 57 rfl)) hr (by decide)) (And.intro trivial (And.intro trivial trivial))) trivial)) trivial))) (And.intro (And.intro trivial (And.intro trivial trivial)) trivial)))⟩
theorem okf_run_of (c : SaysX fx fn K) (XK : K.In base) (G : base.Ns mainGlobals mg) : FnF P w K mg base 11 (d_run_of.adr K) F_run_of := by
  obtain ⟨fd, F, H⟩ := okg_run_of (P := P) (w := w) c XK G
  exact FnF.mk_ H (FunD.bindsN F fun _ _ _ _ _ _ us hl => match us, hl with | [_, _], _ => rfl) F.kp
theorem okg_Run_keeps (c : SaysX fx fn K) (XK : K.In base) (G : base.Ns mainGlobals mg) : ∃ fd, FunD K d_Run_keeps.name d_Run_keeps.qual d_Run_keeps.params d_Run_keeps.body d_Run_keeps.scope (d_Run_keeps.dvs K) [] (d_Run_keeps.adr K) fd ∧ FnG P w K mg base 3 (d_Run_keeps.adr K) fd ps_Run_keeps (spS K ps_Run_keeps.length F_Run_keeps) := by
  obtain ⟨fd, F⟩ := c.def_ 25 (d := d_Run_keeps) rfl
  have ok_Pair_top := okf_Pair_top (P := P) (w := w) c XK G
  have ok_Pair_bottom := okf_Pair_bottom (P := P) (w := w) c XK G
  exact ⟨fd, F, fn_sound F sc_Run_keeps m_Run_keeps fun A hr _ => (And.intro (And.intro (And.intro trivial (And.intro (And.intro (ok_Pair_top.nox.prp (He.cls_ok (c.fact 32 rfl)) (prop_ok (c.fact 36 rfl)) hr (by decide) noxF_nx) (And.intro (And.intro (He.cls_ok (c.fact 40 rfl)) (He.noat_ok (c.fact 41 rfl))) trivial)) trivial)) (And.intro trivial (And.intro (And.intro (ok_Pair_bottom.nox.prp (He.cls_ok (c.fact 32 rfl)) (prop_ok (c.fact 37 rfl)) hr (by decide) noxF_nx) (And.intro (And.intro (He.cls_ok (c.fact 40 rfl)) (He.noat_ok (c.fact 41 rfl))) trivial)) trivial))) (And.intro (And.intro trivial (And.intro trivial (And.intro (And.intro (And.intro (He.cls_ok (c.fact 40 rfl)) (He.noat_ok (c.fact 43 rfl))) trivial) (And.intro (And.intro trivial (And.intro (And.intro (ok_Pair_top.nox.prp (He.cls_ok (c.fact 32 rfl)) (prop_ok (c.fact 36 rfl)) hr (by decide) noxF_nx) (And.intro (And.intro (He.cls_ok (c.fact 40 rfl)) (He.noat_ok (c.fact 41 rfl))) trivial)) trivial)) (And.intro trivial trivial))))) (And.intro (And.intro trivial (And.intro (And.intro trivial (And.intro (And.intro (And.intro (He.cls_ok (c.fact 40 rfl)) (He.noat_ok (c.fact 44 rfl))) trivial) (And.intro (And.intro trivial (And.intro (And.intro (ok_Pair_bottom.nox.prp (He.cls_ok (c.fact 32 rfl)) (prop_ok (c.fact 37 rfl)) hr (by decide) noxF_nx) (And.intro (And.intro (He.cls_ok (c.fact 40 rfl)) (He.noat_ok (c.fact 41 rfl))) trivial)) trivial)) (And.intro trivial trivial)))) trivial)) trivial)))⟩
theorem okf_Run_keeps (c : SaysX fx fn K) (XK : K.In base) (G : base.Ns mainGlobals mg) : FnF P w K mg base 3 (d_Run_keeps.adr K) F_Run_keeps := by
  obtain ⟨fd, F, H⟩ := okg_Run_keeps (P := P) (w := w) c XK G
  exact FnF.mk_ H (FunD.bindsN F fun _ _ _ _ _ _ us hl => match us, hl with | [_, _], _ => rfl) F.kp
theorem okg_Run_lonely (c : SaysX fx fn K) (XK : K.In base) (G : base.Ns mainGlobals mg) : ∃ fd, FunD K d_Run_lonely.name d_Run_lonely.qual d_Run_lonely.params d_Run_lonely.body d_Run_lonely.scope (d_Run_lonely.dvs K) [] (d_Run_lonely.adr K) fd ∧ FnG P w K mg base 5 (d_Run_lonely.adr K) fd ps_Run_lonely (spS K ps_Run_lonely.length F_Run_lonely) := by
  obtain ⟨fd, F⟩ := c.def_ 26 (d := d_Run_lonely) rfl
  have ok_Pair_top := okf_Pair_top (P := P) (w := w) c XK G
  have ok_Run_keeps := okf_Run_keeps (P := P) (w := w) c XK G
  exact ⟨fd, F, fn_sound F sc_Run_lonely m_Run_lonely fun A hr _ => (And.intro (And.intro (And.intro trivial (And.intro trivial trivial)) (And.intro trivial (And.intro (And.intro (And.intro (ok_Pair_top.nox.prp (He.cls_ok (c.fact 32 rfl)) (prop_ok (c.fact 36 rfl)) hr (by decide) noxF_nx) (And.intro (And.intro (He.cls_ok (c.fact 40 rfl)) (He.noat_ok (c.fact 41 rfl))) trivial)) trivial) trivial))) (And.intro (And.intro (And.intro (He.cls_ok (c.fact 40 rfl)) (He.noat_ok (c.fact 43 rfl))) (And.intro trivial (And.intro (And.intro trivial (And.intro trivial (And.intro trivial (And.intro trivial (And.intro trivial (And.intro (And.intro (And.intro (ok_Run_keeps.mth (He.cls_ok (c.fact 40 rfl)) (He.meth_ok (c.fact 58 rfl)) hr (by decide)) (And.intro trivial (And.intro (And.intro trivial trivial) trivial))) trivial) trivial)))))) trivial))) (And.intro (And.intro (He.free_ok XK G (c.fact 6 rfl)) (And.intro (And.intro (He.free_ok XK G (c.fact 59 rfl)) (And.intro trivial trivial)) trivial)) trivial)))⟩
theorem okf_Run_lonely (c : SaysX fx fn K) (XK : K.In base) (G : base.Ns mainGlobals mg) : FnF P w K mg base 5 (d_Run_lonely.adr K) F_Run_lonely := by
  obtain ⟨fd, F, H⟩ := okg_Run_lonely (P := P) (w := w) c XK G
  exact FnF.mk_ H (FunD.bindsN F fun _ _ _ _ _ _ us hl => match us, hl with | [_], _ => rfl) F.kp
theorem okg_wrong_ask (c : SaysX fx fn K) (XK : K.In base) (G : base.Ns mainGlobals mg) : ∃ fd, FunD K d_wrong_ask.name d_wrong_ask.qual d_wrong_ask.params d_wrong_ask.body d_wrong_ask.scope (d_wrong_ask.dvs K) [] (d_wrong_ask.adr K) fd ∧ FnG P w K mg base 5 (d_wrong_ask.adr K) fd ps_wrong_ask (spS K ps_wrong_ask.length F_wrong_ask) := by
  obtain ⟨fd, F⟩ := c.def_ 27 (d := d_wrong_ask) rfl
  have ok_is_within := okf_is_within (P := P) (w := w) c XK G
  exact ⟨fd, F, fn_sound F sc_wrong_ask m_wrong_ask fun A hr _ => (And.intro (And.intro (And.intro (isi_bi (He.free_ok XK G (c.fact 14 rfl)) (He.free_ok XK G (c.fact 6 rfl)) ME.boot_tuple (cs_cons (insT_ok (c.fact 15 rfl)) (kOB_ok (c.fact 23 rfl)) (cs_cons (insT_ok (c.fact 17 rfl)) (kOB_ok (c.fact 24 rfl)) (cs_nil)))) trivial) (And.intro (And.intro (And.intro trivial trivial) trivial) trivial)) (And.intro (And.intro (And.intro trivial (And.intro trivial trivial)) (And.intro (And.intro (He.free_ok XK G (c.fact 25 rfl)) trivial) (And.intro (And.intro (And.intro (And.intro (ok_is_within.pure.call (He.glo_ok XK G (c.fact 26 rfl)) hr (by decide)) (And.intro trivial (And.intro trivial (And.intro (glo_int (He.int_ok XK G (c.fact 60 rfl))) trivial)))) (And.intro (And.intro trivial (glo_int (He.int_ok XK G (c.fact 61 rfl)))) trivial)) (And.intro (And.intro (And.intro trivial trivial) trivial) trivial)) trivial))) (And.intro trivial trivial)))⟩
theorem okf_wrong_ask (c : SaysX fx fn K) (XK : K.In base) (G : base.Ns mainGlobals mg) : FnF P w K mg base 5 (d_wrong_ask.adr K) F_wrong_ask := by
  obtain ⟨fd, F, H⟩ := okg_wrong_ask (P := P) (w := w) c XK G
  exact FnF.mk_ H (FunD.bindsN F fun _ _ _ _ _ _ us hl => match us, hl with | [_], _ => rfl) F.kp
theorem okg_pair_shown (c : SaysX fx fn K) (XK : K.In base) (G : base.Ns mainGlobals mg) : ∃ fd, FunD K d_pair_shown.name d_pair_shown.qual d_pair_shown.params d_pair_shown.body d_pair_shown.scope (d_pair_shown.dvs K) [] (d_pair_shown.adr K) fd ∧ FnG P w K mg base 13 (d_pair_shown.adr K) fd ps_pair_shown (spS K ps_pair_shown.length F_pair_shown) := by
  obtain ⟨fd, F⟩ := c.def_ 28 (d := d_pair_shown) rfl
  have ok_read_pair := okf_read_pair (P := P) (w := w) c XK G
  have ok_Pair_init := okf_Pair_init (P := P) (w := w) c XK G
  have ok_is_enough := okf_is_enough (P := P) (w := w) c XK G
  have ok_Pair_hears := okf_Pair_hears (P := P) (w := w) c XK G
  have ok_is_empty := okf_is_empty (P := P) (w := w) c XK G
  have ok_run_of := okf_run_of (P := P) (w := w) c XK G
  have ok_Run_lonely := okf_Run_lonely (P := P) (w := w) c XK G
  have ok_wrong_ask := okf_wrong_ask (P := P) (w := w) c XK G
  exact ⟨fd, F, fn_sound F sc_pair_shown m_pair_shown fun A hr _ => (And.intro (And.intro trivial (And.intro (ok_read_pair.pure.call (He.glo_ok XK G (c.fact 62 rfl)) hr (by decide)) (And.intro trivial trivial))) (And.intro (And.intro (And.intro trivial trivial) (And.intro (And.intro trivial trivial) trivial)) (And.intro (And.intro trivial (And.intro (newG_ok (ok_Pair_init.new (He.glo_ok XK G (c.fact 63 rfl)) (He.mkr_ok (c.fact 64 rfl)) hr (by decide))) (And.intro (And.intro trivial trivial) (And.intro (And.intro trivial trivial) (And.intro (And.intro trivial trivial) trivial))))) (And.intro (And.intro (And.intro trivial trivial) (And.intro (And.intro (And.intro (And.intro (ok_is_empty.pure.call (He.glo_ok XK G (c.fact 65 rfl)) hr (by decide)) (And.intro trivial trivial)) (And.intro (And.intro (ok_is_enough.pure.call (He.glo_ok XK G (c.fact 66 rfl)) hr (by decide)) (And.intro trivial (And.intro (And.intro (ok_Pair_hears.nox.prp (He.cls_ok (c.fact 32 rfl)) (prop_ok (c.fact 50 rfl)) hr (by decide) noxF_nx) trivial) trivial))) trivial)) trivial) trivial)) (And.intro (And.intro (And.intro trivial trivial) (And.intro (And.intro (And.intro (ok_wrong_ask.pure.call (He.glo_ok XK G (c.fact 67 rfl)) hr (by decide)) (And.intro trivial trivial)) trivial) (And.intro (And.intro (And.intro (ok_Run_lonely.mth (He.cls_ok (c.fact 40 rfl)) (He.meth_ok (c.fact 68 rfl)) hr (by decide)) (And.intro (And.intro (And.intro (ok_run_of.call (He.glo_ok XK G (c.fact 69 rfl)) hr (by decide)) (And.intro trivial (And.intro trivial trivial))) trivial) trivial)) trivial) trivial))) trivial)))))⟩
theorem okf_pair_shown (c : SaysX fx fn K) (XK : K.In base) (G : base.Ns mainGlobals mg) : FnF P w K mg base 13 (d_pair_shown.adr K) F_pair_shown := by
  obtain ⟨fd, F, H⟩ := okg_pair_shown (P := P) (w := w) c XK G
  exact FnF.mk_ H (FunD.bindsN F fun _ _ _ _ _ _ us hl => match us, hl with | [_, _, _], _ => rfl) F.kp
theorem okg_read_states (c : SaysX fx fn K) (XK : K.In base) (G : base.Ns mainGlobals mg) : ∃ fd, FunD K d_read_states.name d_read_states.qual d_read_states.params d_read_states.body d_read_states.scope (d_read_states.dvs K) [] (d_read_states.adr K) fd ∧ FnG P w K mg base 3 (d_read_states.adr K) fd ps_read_states (spS K ps_read_states.length F_read_states) := by
  obtain ⟨fd, F⟩ := c.def_ 29 (d := d_read_states) rfl
  have ok_read_number := okf_read_number (P := P) (w := w) c XK G
  exact ⟨fd, F, fn_sound F sc_read_states m_read_states fun A hr _ => (And.intro (And.intro (He.free_ok XK G (c.fact 6 rfl)) (And.intro (And.intro (And.intro (ok_read_number.pure.call (He.glo_ok XK G (c.fact 12 rfl)) hr (by decide)) (And.intro trivial trivial)) (And.intro trivial (And.intro (And.intro trivial (And.intro trivial trivial)) trivial))) trivial)) trivial)⟩
theorem okf_read_states (c : SaysX fx fn K) (XK : K.In base) (G : base.Ns mainGlobals mg) : FnF P w K mg base 3 (d_read_states.adr K) F_read_states := by
  obtain ⟨fd, F, H⟩ := okg_read_states (P := P) (w := w) c XK G
  exact FnF.mk_ H (FunD.bindsN F fun _ _ _ _ _ _ us hl => match us, hl with | [_], _ => rfl) F.kp
theorem okg_read_line (c : SaysX fx fn K) (XK : K.In base) (G : base.Ns mainGlobals mg) : ∃ fd, FunD K d_read_line.name d_read_line.qual d_read_line.params d_read_line.body d_read_line.scope (d_read_line.dvs K) [] (d_read_line.adr K) fd ∧ FnG P w K mg base 5 (d_read_line.adr K) fd ps_read_line (spS K ps_read_line.length F_read_line) := by
  obtain ⟨fd, F⟩ := c.def_ 30 (d := d_read_line) rfl
  have ok_read_states := okf_read_states (P := P) (w := w) c XK G
  have ok_read_number := okf_read_number (P := P) (w := w) c XK G
  exact ⟨fd, F, fn_sound F sc_read_line m_read_line fun A hr _ => (And.intro (And.intro trivial (And.intro trivial (And.intro trivial trivial))) (And.intro (And.intro (And.intro (And.intro (And.intro (He.free_ok XK G (c.fact 0 rfl)) (And.intro trivial trivial)) trivial) (And.intro (And.intro trivial (And.intro trivial (And.intro trivial (And.intro trivial trivial)))) trivial)) (And.intro (And.intro trivial trivial) trivial)) (And.intro (And.intro (And.intro (ok_read_number.pure.call (He.glo_ok XK G (c.fact 12 rfl)) hr (by decide)) (And.intro (And.intro trivial trivial) trivial)) (And.intro (And.intro (ok_read_states.pure.call (He.glo_ok XK G (c.fact 70 rfl)) hr (by decide)) (And.intro (And.intro trivial trivial) trivial)) (And.intro (And.intro (ok_read_states.pure.call (He.glo_ok XK G (c.fact 70 rfl)) hr (by decide)) (And.intro (And.intro trivial trivial) trivial)) trivial))) trivial)))⟩
theorem okf_read_line (c : SaysX fx fn K) (XK : K.In base) (G : base.Ns mainGlobals mg) : FnF P w K mg base 5 (d_read_line.adr K) F_read_line := by
  obtain ⟨fd, F, H⟩ := okg_read_line (P := P) (w := w) c XK G
  exact FnF.mk_ H (FunD.bindsN F fun _ _ _ _ _ _ us hl => match us, hl with | [_], _ => rfl) F.kp
theorem okg_ways_of (c : SaysX fx fn K) (XK : K.In base) (G : base.Ns mainGlobals mg) : ∃ fd, FunD K d_ways_of.name d_ways_of.qual d_ways_of.params d_ways_of.body d_ways_of.scope (d_ways_of.dvs K) [] (d_ways_of.adr K) fd ∧ FnG P w K mg base 1 (d_ways_of.adr K) fd ps_ways_of (spS K ps_ways_of.length F_ways_of) := by
  obtain ⟨fd, F⟩ := c.def_ 31 (d := d_ways_of) rfl
  exact ⟨fd, F, fn_sound F sc_ways_of m_ways_of fun A hr _ => (And.intro (And.intro (And.intro (And.intro (isi_bi (He.free_ok XK G (c.fact 14 rfl)) (He.free_ok XK G (c.fact 6 rfl)) ME.boot_tuple (cs_cons (insT_ok (c.fact 15 rfl)) (kOB_ok (c.fact 23 rfl)) (cs_cons (insT_ok (c.fact 17 rfl)) (kOB_ok (c.fact 24 rfl)) (cs_nil)))) trivial) (And.intro (And.intro (And.intro (He.free_ok XK G (c.fact 0 rfl)) (And.intro trivial trivial)) trivial) (And.intro (And.intro (isi_bi (He.free_ok XK G (c.fact 14 rfl)) (He.free_ok XK G (c.fact 6 rfl)) ME.boot_tuple (cs_cons (insT_ok (c.fact 15 rfl)) (kOB_ok (c.fact 23 rfl)) (cs_cons (insT_ok (c.fact 17 rfl)) (kOB_ok (c.fact 24 rfl)) (cs_nil)))) (And.intro trivial trivial)) trivial))) (And.intro (And.intro trivial trivial) trivial)) (And.intro (And.intro (And.intro trivial (And.intro (And.intro (He.free_ok XK G (c.fact 0 rfl)) (And.intro (And.intro trivial trivial) trivial)) (glo_int (He.int_ok XK G (c.fact 71 rfl))))) (And.intro (And.intro (He.free_ok XK G (c.fact 0 rfl)) (And.intro (And.intro trivial trivial) trivial)) trivial)) trivial))⟩
theorem okf_ways_of (c : SaysX fx fn K) (XK : K.In base) (G : base.Ns mainGlobals mg) : FnF P w K mg base 1 (d_ways_of.adr K) F_ways_of := by
  obtain ⟨fd, F, H⟩ := okg_ways_of (P := P) (w := w) c XK G
  exact FnF.mk_ H (FunD.bindsN F fun _ _ _ _ _ _ us hl => match us, hl with | [_], _ => rfl) F.kp
theorem okg_are_states (c : SaysX fx fn K) (XK : K.In base) (G : base.Ns mainGlobals mg) : ∃ fd, FunD K d_are_states.name d_are_states.qual d_are_states.params d_are_states.body d_are_states.scope (d_are_states.dvs K) [] (d_are_states.adr K) fd ∧ FnG P w K mg base 5 (d_are_states.adr K) fd ps_are_states (spS K ps_are_states.length F_are_states) := by
  obtain ⟨fd, F⟩ := c.def_ 32 (d := d_are_states) rfl
  have ok_is_within := okf_is_within (P := P) (w := w) c XK G
  exact ⟨fd, F, fn_sound F sc_are_states m_are_states fun A hr _ => (And.intro (And.intro (And.intro (isi_bi (He.free_ok XK G (c.fact 14 rfl)) (He.free_ok XK G (c.fact 6 rfl)) ME.boot_tuple (cs_cons (insT_ok (c.fact 15 rfl)) (kOB_ok (c.fact 23 rfl)) (cs_cons (insT_ok (c.fact 17 rfl)) (kOB_ok (c.fact 24 rfl)) (cs_nil)))) trivial) (And.intro (And.intro (And.intro (He.free_ok XK G (c.fact 0 rfl)) (And.intro trivial trivial)) trivial) (And.intro (And.intro (He.free_ok XK G (c.fact 1 rfl)) (And.intro (And.intro (And.intro (ok_is_within.pure.call (He.glo_ok XK G (c.fact 26 rfl)) hr (by decide)) (And.intro trivial (And.intro trivial (And.intro (And.intro trivial trivial) trivial)))) (And.intro trivial (And.intro trivial trivial))) trivial)) trivial))) trivial)⟩
theorem okf_are_states (c : SaysX fx fn K) (XK : K.In base) (G : base.Ns mainGlobals mg) : FnF P w K mg base 5 (d_are_states.adr K) F_are_states := by
  obtain ⟨fd, F, H⟩ := okg_are_states (P := P) (w := w) c XK G
  exact FnF.mk_ H (FunD.bindsN F fun _ _ _ _ _ _ us hl => match us, hl with | [_, _, _], _ => rfl) F.kp
theorem okg_is_line (c : SaysX fx fn K) (XK : K.In base) (G : base.Ns mainGlobals mg) : ∃ fd, FunD K d_is_line.name d_is_line.qual d_is_line.params d_is_line.body d_is_line.scope (d_is_line.dvs K) [] (d_is_line.adr K) fd ∧ FnG P w K mg base 7 (d_is_line.adr K) fd ps_is_line (spS K ps_is_line.length F_is_line) := by
  obtain ⟨fd, F⟩ := c.def_ 33 (d := d_is_line) rfl
  have ok_is_within := okf_is_within (P := P) (w := w) c XK G
  have ok_are_states := okf_are_states (P := P) (w := w) c XK G
  exact ⟨fd, F, fn_sound F sc_is_line m_is_line fun A hr _ => (And.intro (And.intro (And.intro (And.intro (isi_bi (He.free_ok XK G (c.fact 14 rfl)) (He.free_ok XK G (c.fact 6 rfl)) ME.boot_tuple (cs_cons (insT_ok (c.fact 15 rfl)) (kOB_ok (c.fact 23 rfl)) (cs_cons (insT_ok (c.fact 17 rfl)) (kOB_ok (c.fact 24 rfl)) (cs_nil)))) trivial) (And.intro (And.intro (And.intro (He.free_ok XK G (c.fact 0 rfl)) (And.intro trivial trivial)) trivial) (And.intro (And.intro (ok_is_within.pure.call (He.glo_ok XK G (c.fact 26 rfl)) hr (by decide)) (And.intro (And.intro trivial trivial) (And.intro trivial (And.intro (And.intro trivial trivial) trivial)))) trivial))) (And.intro (And.intro trivial trivial) trivial)) (And.intro (And.intro (And.intro (ok_are_states.pure.call (He.glo_ok XK G (c.fact 72 rfl)) hr (by decide)) (And.intro (And.intro trivial trivial) (And.intro trivial (And.intro trivial trivial)))) (And.intro (And.intro (ok_are_states.pure.call (He.glo_ok XK G (c.fact 72 rfl)) hr (by decide)) (And.intro (And.intro trivial trivial) (And.intro trivial (And.intro trivial trivial)))) trivial)) trivial))⟩
theorem okf_is_line (c : SaysX fx fn K) (XK : K.In base) (G : base.Ns mainGlobals mg) : FnF P w K mg base 7 (d_is_line.adr K) F_is_line := by
  obtain ⟨fd, F, H⟩ := okg_is_line (P := P) (w := w) c XK G
  exact FnF.mk_ H (FunD.bindsN F fun _ _ _ _ _ _ us hl => match us, hl with | [_, _, _], _ => rfl) F.kp
theorem okg_wrong_line (c : SaysX fx fn K) (XK : K.In base) (G : base.Ns mainGlobals mg) : ∃ fd, FunD K d_wrong_line.name d_wrong_line.qual d_wrong_line.params d_wrong_line.body d_wrong_line.scope (d_wrong_line.dvs K) [] (d_wrong_line.adr K) fd ∧ FnG P w K mg base 9 (d_wrong_line.adr K) fd ps_wrong_line (spS K ps_wrong_line.length F_wrong_line) := by
  obtain ⟨fd, F⟩ := c.def_ 34 (d := d_wrong_line) rfl
  have ok_ways_of := okf_ways_of (P := P) (w := w) c XK G
  have ok_is_line := okf_is_line (P := P) (w := w) c XK G
  exact ⟨fd, F, fn_sound F sc_wrong_line m_wrong_line fun A hr _ => (And.intro (And.intro (And.intro (And.intro (isi_bi (He.free_ok XK G (c.fact 14 rfl)) (He.free_ok XK G (c.fact 6 rfl)) ME.boot_tuple (cs_cons (insT_ok (c.fact 15 rfl)) (kOB_ok (c.fact 23 rfl)) (cs_cons (insT_ok (c.fact 17 rfl)) (kOB_ok (c.fact 24 rfl)) (cs_nil)))) trivial) (And.intro (And.intro (And.intro (He.free_ok XK G (c.fact 0 rfl)) (And.intro trivial trivial)) trivial) trivial)) (And.intro (And.intro (And.intro trivial trivial) trivial) trivial)) (And.intro (And.intro trivial (And.intro (ok_ways_of.pure.call (He.glo_ok XK G (c.fact 73 rfl)) hr (by decide)) (And.intro (And.intro trivial trivial) trivial))) (And.intro (And.intro (And.intro trivial (And.intro trivial trivial)) (And.intro (And.intro (He.free_ok XK G (c.fact 25 rfl)) trivial) (And.intro (And.intro (And.intro (And.intro trivial trivial) (And.intro (And.intro trivial (glo_int (He.int_ok XK G (c.fact 74 rfl)))) (And.intro (And.intro (ok_is_line.pure.call (He.glo_ok XK G (c.fact 75 rfl)) hr (by decide)) (And.intro trivial (And.intro trivial (And.intro (And.intro (He.free_ok XK G (c.fact 0 rfl)) (And.intro trivial trivial)) trivial)))) trivial))) (And.intro (And.intro (And.intro trivial trivial) trivial) trivial)) trivial))) (And.intro trivial trivial))))⟩
theorem okf_wrong_line (c : SaysX fx fn K) (XK : K.In base) (G : base.Ns mainGlobals mg) : FnF P w K mg base 9 (d_wrong_line.adr K) F_wrong_line := by
  obtain ⟨fd, F, H⟩ := okg_wrong_line (P := P) (w := w) c XK G
  exact FnF.mk_ H (FunD.bindsN F fun _ _ _ _ _ _ us hl => match us, hl with | [_], _ => rfl) F.kp
theorem okg_read_keeper (c : SaysX fx fn K) (XK : K.In base) (G : base.Ns mainGlobals mg) : ∃ fd, FunD K d_read_keeper.name d_read_keeper.qual d_read_keeper.params d_read_keeper.body d_read_keeper.scope (d_read_keeper.dvs K) [] (d_read_keeper.adr K) fd ∧ FnG P w K mg base 11 (d_read_keeper.adr K) fd ps_read_keeper (spS K ps_read_keeper.length F_read_keeper) := by
  obtain ⟨fd, F⟩ := c.def_ 35 (d := d_read_keeper) rfl
  have ok_read_line := okf_read_line (P := P) (w := w) c XK G
  have ok_wrong_line := okf_wrong_line (P := P) (w := w) c XK G
  exact ⟨fd, F, fn_sound F sc_read_keeper m_read_keeper fun A hr _ => (And.intro (And.intro (And.intro (isi_bi (He.free_ok XK G (c.fact 14 rfl)) (He.free_ok XK G (c.fact 8 rfl)) ME.boot_str (cs_cons (insT_ok (c.fact 15 rfl)) (kOB_ok (c.fact 27 rfl)) (cs_cons (insT_ok (c.fact 17 rfl)) (kOB_ok (c.fact 28 rfl)) (cs_nil)))) trivial) (And.intro (And.intro trivial trivial) trivial)) (And.intro (And.intro trivial (And.intro (He.free_ok XK G (c.fact 6 rfl)) (And.intro (And.intro (And.intro (ok_read_line.pure.call (He.glo_ok XK G (c.fact 76 rfl)) hr (by decide)) (And.intro trivial trivial)) (And.intro trivial (And.intro (And.intro trivial (And.intro trivial trivial)) trivial))) trivial))) (And.intro (And.intro (And.intro (And.intro (ok_wrong_line.pure.call (He.glo_ok XK G (c.fact 77 rfl)) hr (by decide)) (And.intro trivial trivial)) trivial) (And.intro trivial trivial)) trivial)))⟩
theorem okf_read_keeper (c : SaysX fx fn K) (XK : K.In base) (G : base.Ns mainGlobals mg) : FnF P w K mg base 11 (d_read_keeper.adr K) F_read_keeper := by
  obtain ⟨fd, F, H⟩ := okg_read_keeper (P := P) (w := w) c XK G
  exact FnF.mk_ H (FunD.bindsN F fun _ _ _ _ _ _ us hl => match us, hl with | [_], _ => rfl) F.kp
theorem okg_Keeper_init (c : SaysX fx fn K) (XK : K.In base) (G : base.Ns mainGlobals mg) : ∃ fd, FunD K d_Keeper_init.name d_Keeper_init.qual d_Keeper_init.params d_Keeper_init.body d_Keeper_init.scope (d_Keeper_init.dvs K) [] (d_Keeper_init.adr K) fd ∧ FnG P w K mg base 11 (d_Keeper_init.adr K) fd ps_Keeper_init (spS K ps_Keeper_init.length F_Keeper_init) := by
  obtain ⟨fd, F⟩ := c.def_ 36 (d := d_Keeper_init) rfl
  have ok_wrong_line := okf_wrong_line (P := P) (w := w) c XK G
  exact ⟨fd, F, fn_sound F sc_Keeper_init m_Keeper_init fun A hr _ => (And.intro (And.intro trivial (And.intro (ok_wrong_line.pure.call (He.glo_ok XK G (c.fact 77 rfl)) hr (by decide)) (And.intro trivial trivial))) (And.intro (And.intro (And.intro trivial trivial) (And.intro (And.intro trivial trivial) trivial)) (And.intro (And.intro (And.intro (And.intro (He.cls_ok (c.fact 78 rfl)) (He.noat_ok (c.fact 79 rfl))) trivial) trivial) trivial)))⟩
theorem okf_Keeper_init (c : SaysX fx fn K) (XK : K.In base) (G : base.Ns mainGlobals mg) : FnF P w K mg base 11 (d_Keeper_init.adr K) F_Keeper_init := by
  obtain ⟨fd, F, H⟩ := okg_Keeper_init (P := P) (w := w) c XK G
  exact FnF.mk_ H (FunD.bindsN F fun _ _ _ _ _ _ us hl => match us, hl with | [_, _], _ => rfl) F.kp
theorem okg_begin (c : SaysX fx fn K) (XK : K.In base) (G : base.Ns mainGlobals mg) : ∃ fd, FunD K d_begin.name d_begin.qual d_begin.params d_begin.body d_begin.scope (d_begin.dvs K) [] (d_begin.adr K) fd ∧ FnG P w K mg base 1 (d_begin.adr K) fd ps_begin (spS K ps_begin.length F_begin) := by
  obtain ⟨fd, F⟩ := c.def_ 37 (d := d_begin) rfl
  exact ⟨fd, F, fn_sound F sc_begin m_begin fun A hr _ => (And.intro (And.intro trivial (And.intro trivial (And.intro trivial (And.intro trivial trivial)))) trivial)⟩
theorem okf_begin (c : SaysX fx fn K) (XK : K.In base) (G : base.Ns mainGlobals mg) : FnF P w K mg base 1 (d_begin.adr K) F_begin := by
  obtain ⟨fd, F, H⟩ := okg_begin (P := P) (w := w) c XK G
  exact FnF.mk_ H (FunD.bindsN F fun _ _ _ _ _ _ us hl => match us, hl with | [], _ => rfl) F.kp
theorem okg_asks_of (c : SaysX fx fn K) (XK : K.In base) (G : base.Ns mainGlobals mg) : ∃ fd, FunD K d_asks_of.name d_asks_of.qual d_asks_of.params d_asks_of.body d_asks_of.scope (d_asks_of.dvs K) [] (d_asks_of.adr K) fd ∧ FnG P w K mg base 1 (d_asks_of.adr K) fd ps_asks_of (spS K ps_asks_of.length F_asks_of) := by
  obtain ⟨fd, F⟩ := c.def_ 38 (d := d_asks_of) rfl
  exact ⟨fd, F, fn_sound F sc_asks_of m_asks_of fun A hr _ => (And.intro (And.intro (And.intro trivial (And.intro trivial (And.intro trivial (And.intro trivial trivial)))) trivial) (And.intro (And.intro trivial (And.intro (And.intro (glo_str (He.str_ok XK G (c.fact 80 rfl))) (And.intro trivial trivial)) (And.intro trivial (And.intro (And.intro (He.free_ok XK G (c.fact 81 rfl)) (And.intro (He.free_ok XK G (c.fact 0 rfl)) (And.intro trivial trivial))) trivial)))) (And.intro (And.intro (And.intro trivial (And.intro (And.intro (glo_str (He.str_ok XK G (c.fact 82 rfl))) (And.intro trivial trivial)) (And.intro trivial (And.intro (And.intro (He.free_ok XK G (c.fact 81 rfl)) trivial) (And.intro (And.intro trivial trivial) trivial))))) (And.intro (And.intro (glo_str (He.str_ok XK G (c.fact 83 rfl))) (And.intro trivial trivial)) trivial)) trivial)))⟩
theorem okf_asks_of (c : SaysX fx fn K) (XK : K.In base) (G : base.Ns mainGlobals mg) : FnF P w K mg base 1 (d_asks_of.adr K) F_asks_of := by
  obtain ⟨fd, F, H⟩ := okg_asks_of (P := P) (w := w) c XK G
  exact FnF.mk_ H (FunD.bindsN F fun _ _ _ _ _ _ us hl => match us, hl with | [_], _ => rfl) F.kp
theorem okg_Keeper_rows (c : SaysX fx fn K) (XK : K.In base) (G : base.Ns mainGlobals mg) : ∃ fd, FunD K d_Keeper_rows.name d_Keeper_rows.qual d_Keeper_rows.params d_Keeper_rows.body d_Keeper_rows.scope (d_Keeper_rows.dvs K) [] (d_Keeper_rows.adr K) fd ∧ FnG P w K mg base 1 (d_Keeper_rows.adr K) fd ps_Keeper_rows (spS K ps_Keeper_rows.length F_Keeper_rows) := by
  obtain ⟨fd, F⟩ := c.def_ 39 (d := d_Keeper_rows) rfl
  exact ⟨fd, F, fn_sound F sc_Keeper_rows m_Keeper_rows fun A hr _ => (And.intro (And.intro (And.intro (He.cls_ok (c.fact 78 rfl)) (He.noat_ok (c.fact 79 rfl))) trivial) trivial)⟩
theorem okf_Keeper_rows (c : SaysX fx fn K) (XK : K.In base) (G : base.Ns mainGlobals mg) : FnF P w K mg base 1 (d_Keeper_rows.adr K) F_Keeper_rows := by
  obtain ⟨fd, F, H⟩ := okg_Keeper_rows (P := P) (w := w) c XK G
  exact FnF.mk_ H (FunD.bindsN F fun _ _ _ _ _ _ us hl => match us, hl with | [_], _ => rfl) F.kp
theorem okg_way_for (c : SaysX fx fn K) (XK : K.In base) (G : base.Ns mainGlobals mg) : ∃ fd, FunD K d_way_for.name d_way_for.qual d_way_for.params d_way_for.body d_way_for.scope (d_way_for.dvs K) [] (d_way_for.adr K) fd ∧ FnG P w K mg base 1 (d_way_for.adr K) fd ps_way_for (spS K ps_way_for.length F_way_for) := by
  obtain ⟨fd, F⟩ := c.def_ 40 (d := d_way_for) rfl
  exact ⟨fd, F, fn_sound F sc_way_for m_way_for fun A hr _ => (And.intro (And.intro (And.intro trivial (And.intro (He.free_ok XK G (c.fact 0 rfl)) (And.intro (And.intro (And.intro trivial trivial) trivial) trivial))) (And.intro trivial (And.intro (And.intro trivial trivial) trivial))) trivial)⟩
theorem okf_way_for (c : SaysX fx fn K) (XK : K.In base) (G : base.Ns mainGlobals mg) : FnF P w K mg base 1 (d_way_for.adr K) F_way_for := by
  obtain ⟨fd, F, H⟩ := okg_way_for (P := P) (w := w) c XK G
  exact FnF.mk_ H (FunD.bindsN F fun _ _ _ _ _ _ us hl => match us, hl with | [_, _, _], _ => rfl) F.kp
theorem okg_heard (c : SaysX fx fn K) (XK : K.In base) (G : base.Ns mainGlobals mg) : ∃ fd, FunD K d_heard.name d_heard.qual d_heard.params d_heard.body d_heard.scope (d_heard.dvs K) [] (d_heard.adr K) fd ∧ FnG P w K mg base 3 (d_heard.adr K) fd ps_heard (spS K ps_heard.length F_heard) := by
  obtain ⟨fd, F⟩ := c.def_ 41 (d := d_heard) rfl
  have ok_Keeper_rows := okf_Keeper_rows (P := P) (w := w) c XK G
  have ok_way_for := okf_way_for (P := P) (w := w) c XK G
  exact ⟨fd, F, fn_sound F sc_heard m_heard fun A hr _ => (And.intro (And.intro (And.intro trivial (And.intro trivial (And.intro trivial (And.intro trivial trivial)))) trivial) (And.intro (And.intro (And.intro trivial trivial) (And.intro (And.intro (And.intro (And.intro (And.intro (And.intro (And.intro (ok_Keeper_rows.nox.prp (He.cls_ok (c.fact 78 rfl)) (prop_ok (c.fact 84 rfl)) hr (by decide) noxF_nx) trivial) trivial) trivial) trivial) (And.intro trivial (And.intro trivial trivial))) trivial) trivial)) (And.intro (And.intro trivial (And.intro (ok_way_for.pure.call (He.glo_ok XK G (c.fact 85 rfl)) hr (by decide)) (And.intro (And.intro (ok_Keeper_rows.nox.prp (He.cls_ok (c.fact 78 rfl)) (prop_ok (c.fact 84 rfl)) hr (by decide) noxF_nx) trivial) (And.intro trivial (And.intro trivial trivial))))) (And.intro (And.intro (And.intro (And.intro (And.intro (And.intro (ok_Keeper_rows.nox.prp (He.cls_ok (c.fact 78 rfl)) (prop_ok (c.fact 84 rfl)) hr (by decide) noxF_nx) trivial) trivial) trivial) trivial) (And.intro (And.intro (He.free_ok XK G (c.fact 5 rfl)) (And.intro trivial (And.intro (And.intro trivial trivial) trivial))) (And.intro trivial trivial))) trivial))))⟩
theorem okf_heard (c : SaysX fx fn K) (XK : K.In base) (G : base.Ns mainGlobals mg) : FnF P w K mg base 3 (d_heard.adr K) F_heard := by
  obtain ⟨fd, F, H⟩ := okg_heard (P := P) (w := w) c XK G
  exact FnF.mk_ H (FunD.bindsN F fun _ _ _ _ _ _ us hl => match us, hl with | [_, _, _], _ => rfl) F.kp
theorem okg_after (c : SaysX fx fn K) (XK : K.In base) (G : base.Ns mainGlobals mg) : ∃ fd, FunD K d_after.name d_after.qual d_after.params d_after.body d_after.scope (d_after.dvs K) [] (d_after.adr K) fd ∧ FnG P w K mg base 5 (d_after.adr K) fd ps_after (spS K ps_after.length F_after) := by
  obtain ⟨fd, F⟩ := c.def_ 42 (d := d_after) rfl
  have ok_heard := okf_heard (P := P) (w := w) c XK G
  have ok_Keeper_rows := okf_Keeper_rows (P := P) (w := w) c XK G
  have ok_way_for := okf_way_for (P := P) (w := w) c XK G
  exact ⟨fd, F, fn_sound F sc_after m_after fun A hr _ => (And.intro (And.intro (And.intro trivial (And.intro trivial (And.intro trivial (And.intro trivial trivial)))) trivial) (And.intro (And.intro (And.intro trivial (And.intro trivial trivial)) trivial) (And.intro (And.intro (And.intro trivial (glo_str (He.str_ok XK G (c.fact 80 rfl)))) (And.intro (And.intro (And.intro (And.intro trivial (glo_str (He.str_ok XK G (c.fact 86 rfl)))) (And.intro (And.intro (And.intro trivial (And.intro (And.intro (ok_heard.pure.call (He.glo_ok XK G (c.fact 87 rfl)) hr (by decide)) (And.intro trivial (And.intro trivial (And.intro (And.intro trivial trivial) trivial)))) trivial)) trivial) trivial)) (And.intro (And.intro (And.intro (And.intro (And.intro (And.intro (ok_Keeper_rows.nox.prp (He.cls_ok (c.fact 78 rfl)) (prop_ok (c.fact 84 rfl)) hr (by decide) noxF_nx) trivial) trivial) trivial) trivial) (And.intro trivial (And.intro trivial (And.intro trivial trivial)))) trivial)) trivial)) (And.intro (And.intro (And.intro trivial (And.intro trivial (And.intro trivial trivial))) (And.intro (ok_heard.pure.call (He.glo_ok XK G (c.fact 87 rfl)) hr (by decide)) (And.intro trivial (And.intro trivial (And.intro (And.intro (And.intro trivial (glo_str (He.str_ok XK G (c.fact 82 rfl)))) (And.intro trivial trivial)) trivial))))) (And.intro (And.intro (And.intro trivial (glo_str (He.str_ok XK G (c.fact 83 rfl)))) (And.intro (And.intro (And.intro trivial (And.intro (He.free_ok XK G (c.fact 6 rfl)) (And.intro (And.intro (And.intro (And.intro trivial trivial) (And.intro trivial trivial)) (And.intro trivial (And.intro trivial trivial))) trivial))) trivial) trivial)) (And.intro (And.intro trivial (And.intro (ok_way_for.pure.call (He.glo_ok XK G (c.fact 85 rfl)) hr (by decide)) (And.intro (And.intro (ok_Keeper_rows.nox.prp (He.cls_ok (c.fact 78 rfl)) (prop_ok (c.fact 84 rfl)) hr (by decide) noxF_nx) trivial) (And.intro trivial (And.intro (And.intro (He.free_ok XK G (c.fact 0 rfl)) (And.intro trivial trivial)) trivial))))) (And.intro (And.intro (And.intro (And.intro (And.intro (And.intro (ok_Keeper_rows.nox.prp (He.cls_ok (c.fact 78 rfl)) (prop_ok (c.fact 84 rfl)) hr (by decide) noxF_nx) trivial) trivial) trivial) trivial) (And.intro trivial (And.intro (And.intro (And.intro (And.intro trivial (And.intro trivial (And.intro trivial trivial))) (And.intro trivial trivial)) (And.intro trivial (And.intro (And.intro (And.intro trivial trivial) trivial) trivial))) (And.intro trivial trivial)))) trivial)))))))⟩
theorem okf_after (c : SaysX fx fn K) (XK : K.In base) (G : base.Ns mainGlobals mg) : FnF P w K mg base 5 (d_after.adr K) F_after := by
  obtain ⟨fd, F, H⟩ := okg_after (P := P) (w := w) c XK G
  exact FnF.mk_ H (FunD.bindsN F fun _ _ _ _ _ _ us hl => match us, hl with | [_, _, _, _, _], _ => rfl) F.kp
theorem okg_searched (c : SaysX fx fn K) (XK : K.In base) (G : base.Ns mainGlobals mg) : ∃ fd, FunD K d_searched.name d_searched.qual d_searched.params d_searched.body d_searched.scope (d_searched.dvs K) [] (d_searched.adr K) fd ∧ FnG P w K mg base 7 (d_searched.adr K) fd ps_searched (spS K ps_searched.length F_searched) := by
  obtain ⟨fd, F⟩ := c.def_ 43 (d := d_searched) rfl
  have ok_begin := okf_begin (P := P) (w := w) c XK G
  have ok_asks_of := okf_asks_of (P := P) (w := w) c XK G
  have ok_after := okf_after (P := P) (w := w) c XK G
  exact ⟨fd, F, fn_sound F sc_searched m_searched fun A hr _ => (And.intro (And.intro trivial (And.intro (And.intro (ok_begin.pure.call (He.glo_ok XK G (c.fact 88 rfl)) hr (by decide)) trivial) trivial)) (And.intro (And.intro trivial trivial) (And.intro (And.intro (And.intro trivial (And.intro (He.free_ok XK G (c.fact 0 rfl)) (And.intro trivial trivial))) (And.intro (And.intro trivial (And.intro (And.intro (ok_asks_of.pure.call (He.glo_ok XK G (c.fact 89 rfl)) hr (by decide)) (And.intro (And.intro trivial trivial) trivial)) (And.intro (And.intro (And.intro (ok_after.pure.call (He.glo_ok XK G (c.fact 90 rfl)) hr (by decide)) (And.intro trivial (And.intro trivial (And.intro trivial (And.intro (And.intro trivial trivial) (And.intro trivial trivial)))))) (And.intro (And.intro trivial (And.intro trivial trivial)) (And.intro trivial trivial))) (And.intro (And.intro (And.intro trivial (And.intro trivial trivial)) (And.intro (And.intro (And.intro trivial (And.intro trivial trivial)) trivial) trivial)) (And.intro (And.intro (And.intro trivial trivial) (And.intro (And.intro (And.intro (And.intro trivial trivial) trivial) (And.intro (And.intro trivial (And.intro trivial trivial)) trivial)) trivial)) trivial))))) (And.intro trivial trivial))) (And.intro (And.intro trivial (And.intro trivial trivial)) trivial))))⟩
theorem okf_searched (c : SaysX fx fn K) (XK : K.In base) (G : base.Ns mainGlobals mg) : FnF P w K mg base 7 (d_searched.adr K) F_searched := by
  obtain ⟨fd, F, H⟩ := okg_searched (P := P) (w := w) c XK G
  exact FnF.mk_ H (FunD.bindsN F fun _ _ _ _ _ _ us hl => match us, hl with | [_, _, _], _ => rfl) F.kp
theorem okg_leaves_alone (c : SaysX fx fn K) (XK : K.In base) (G : base.Ns mainGlobals mg) : ∃ fd, FunD K d_leaves_alone.name d_leaves_alone.qual d_leaves_alone.params d_leaves_alone.body d_leaves_alone.scope (d_leaves_alone.dvs K) [] (d_leaves_alone.adr K) fd ∧ FnG P w K mg base 3 (d_leaves_alone.adr K) fd ps_leaves_alone (spS K ps_leaves_alone.length F_leaves_alone) := by
  obtain ⟨fd, F⟩ := c.def_ 44 (d := d_leaves_alone) rfl
  have ok_way_for := okf_way_for (P := P) (w := w) c XK G
  have ok_Keeper_rows := okf_Keeper_rows (P := P) (w := w) c XK G
  exact ⟨fd, F, fn_sound F sc_leaves_alone m_leaves_alone fun A hr _ => (And.intro (And.intro (And.intro trivial (And.intro trivial (And.intro trivial (And.intro trivial trivial)))) (And.intro trivial (And.intro trivial (And.intro trivial (And.intro trivial trivial))))) (And.intro (And.intro trivial (And.intro trivial (And.intro (And.intro trivial (And.intro trivial trivial)) (And.intro (And.intro (And.intro trivial (And.intro (And.intro trivial (glo_str (He.str_ok XK G (c.fact 86 rfl)))) trivial)) (And.intro (And.intro (And.intro trivial (And.intro (And.intro trivial trivial) (And.intro (And.intro trivial (And.intro trivial trivial)) (And.intro (ok_way_for.pure.call (He.glo_ok XK G (c.fact 85 rfl)) hr (by decide)) (And.intro (And.intro (ok_Keeper_rows.nox.prp (He.cls_ok (c.fact 78 rfl)) (prop_ok (c.fact 84 rfl)) hr (by decide) noxF_nx) trivial) (And.intro trivial (And.intro (And.intro (He.free_ok XK G (c.fact 0 rfl)) (And.intro trivial trivial)) trivial))))))) (And.intro (And.intro trivial (And.intro (And.intro (And.intro (And.intro (ok_Keeper_rows.nox.prp (He.cls_ok (c.fact 78 rfl)) (prop_ok (c.fact 84 rfl)) hr (by decide) noxF_nx) trivial) trivial) (And.intro (And.intro trivial trivial) (And.intro trivial trivial))) trivial)) (And.intro trivial trivial))) trivial)) (And.intro (And.intro trivial (And.intro trivial (And.intro (And.intro trivial (And.intro trivial trivial)) (And.intro (ok_way_for.pure.call (He.glo_ok XK G (c.fact 85 rfl)) hr (by decide)) (And.intro (And.intro (ok_Keeper_rows.nox.prp (He.cls_ok (c.fact 78 rfl)) (prop_ok (c.fact 84 rfl)) hr (by decide) noxF_nx) trivial) (And.intro trivial (And.intro (And.intro (He.free_ok XK G (c.fact 0 rfl)) (And.intro trivial trivial)) trivial))))))) (And.intro (And.intro trivial (And.intro (And.intro (And.intro (And.intro (ok_Keeper_rows.nox.prp (He.cls_ok (c.fact 78 rfl)) (prop_ok (c.fact 84 rfl)) hr (by decide) noxF_nx) trivial) trivial) (And.intro trivial (And.intro trivial trivial))) trivial)) (And.intro trivial trivial))))))) (And.intro (And.intro (He.free_ok XK G (c.fact 91 rfl)) (And.intro (And.intro (And.intro trivial trivial) (And.intro trivial (And.intro trivial trivial))) trivial)) trivial)))⟩
theorem okf_leaves_alone (c : SaysX fx fn K) (XK : K.In base) (G : base.Ns mainGlobals mg) : FnF P w K mg base 3 (d_leaves_alone.adr K) F_leaves_alone := by
  obtain ⟨fd, F, H⟩ := okg_leaves_alone (P := P) (w := w) c XK G
  exact FnF.mk_ H (FunD.bindsN F fun _ _ _ _ _ _ us hl => match us, hl with | [_, _, _, _], _ => rfl) F.kp
theorem okg_is_numbered (c : SaysX fx fn K) (XK : K.In base) (G : base.Ns mainGlobals mg) : ∃ fd, FunD K d_is_numbered.name d_is_numbered.qual d_is_numbered.params d_is_numbered.body d_is_numbered.scope (d_is_numbered.dvs K) [] (d_is_numbered.adr K) fd ∧ FnG P w K mg base 3 (d_is_numbered.adr K) fd ps_is_numbered (spS K ps_is_numbered.length F_is_numbered) := by
  obtain ⟨fd, F⟩ := c.def_ 45 (d := d_is_numbered) rfl
  have ok_is_integer := okf_is_integer (P := P) (w := w) c XK G
  exact ⟨fd, F, fn_sound F sc_is_numbered m_is_numbered fun A hr _ => (And.intro (And.intro (And.intro (And.intro (isi_bi (He.free_ok XK G (c.fact 14 rfl)) (He.free_ok XK G (c.fact 6 rfl)) ME.boot_tuple (cs_cons (insT_ok (c.fact 15 rfl)) (kOB_ok (c.fact 23 rfl)) (cs_cons (insT_ok (c.fact 17 rfl)) (kOB_ok (c.fact 24 rfl)) (cs_nil)))) trivial) (And.intro (And.intro (And.intro (He.free_ok XK G (c.fact 0 rfl)) (And.intro trivial trivial)) (glo_int (He.int_ok XK G (c.fact 61 rfl)))) trivial)) (And.intro (And.intro trivial trivial) trivial)) (And.intro (And.intro trivial trivial) (And.intro (And.intro trivial (And.intro trivial (And.intro (And.intro (And.intro (And.intro (ok_is_integer.pure.call (He.glo_ok XK G (c.fact 22 rfl)) hr (by decide)) (And.intro trivial trivial)) (And.intro (And.intro trivial (And.intro trivial trivial)) trivial)) (And.intro (And.intro trivial trivial) trivial)) (And.intro (And.intro trivial (And.intro (He.free_ok XK G (c.fact 5 rfl)) (And.intro trivial (And.intro (And.intro trivial trivial) trivial)))) trivial)))) (And.intro trivial trivial))))⟩
theorem okf_is_numbered (c : SaysX fx fn K) (XK : K.In base) (G : base.Ns mainGlobals mg) : FnF P w K mg base 3 (d_is_numbered.adr K) F_is_numbered := by
  obtain ⟨fd, F, H⟩ := okg_is_numbered (P := P) (w := w) c XK G
  exact FnF.mk_ H (FunD.bindsN F fun _ _ _ _ _ _ us hl => match us, hl with | [_], _ => rfl) F.kp
theorem okg_keepers_shown (c : SaysX fx fn K) (XK : K.In base) (G : base.Ns mainGlobals mg) : ∃ fd, FunD K d_keepers_shown.name d_keepers_shown.qual d_keepers_shown.params d_keepers_shown.body d_keepers_shown.scope (d_keepers_shown.dvs K) [] (d_keepers_shown.adr K) fd ∧ FnG P w K mg base 13 (d_keepers_shown.adr K) fd ps_keepers_shown (spS K ps_keepers_shown.length F_keepers_shown) := by
  obtain ⟨fd, F⟩ := c.def_ 46 (d := d_keepers_shown) rfl
  have ok_read_keeper := okf_read_keeper (P := P) (w := w) c XK G
  have ok_Keeper_init := okf_Keeper_init (P := P) (w := w) c XK G
  have ok_searched := okf_searched (P := P) (w := w) c XK G
  have ok_is_empty := okf_is_empty (P := P) (w := w) c XK G
  have ok_leaves_alone := okf_leaves_alone (P := P) (w := w) c XK G
  have ok_is_numbered := okf_is_numbered (P := P) (w := w) c XK G
  exact ⟨fd, F, fn_sound F sc_keepers_shown m_keepers_shown fun A hr _ => (And.intro (And.intro (And.intro (ok_read_keeper.pure.call (He.glo_ok XK G (c.fact 92 rfl)) hr (by decide)) (And.intro (And.intro trivial trivial) trivial)) (And.intro (ok_read_keeper.pure.call (He.glo_ok XK G (c.fact 92 rfl)) hr (by decide)) (And.intro (And.intro trivial trivial) trivial))) (And.intro (And.intro (And.intro (And.intro trivial trivial) (And.intro (And.intro trivial trivial) (And.intro (And.intro (And.intro trivial trivial) (And.intro (glo_str (He.str_ok XK G (c.fact 9 rfl))) (And.intro (glo_str (He.str_ok XK G (c.fact 86 rfl))) trivial))) trivial))) (And.intro (And.intro trivial trivial) trivial)) (And.intro (And.intro (And.intro (newG_ok (ok_Keeper_init.new (He.glo_ok XK G (c.fact 93 rfl)) (He.mkr_ok (c.fact 94 rfl)) hr (by decide))) (And.intro trivial trivial)) (And.intro (newG_ok (ok_Keeper_init.new (He.glo_ok XK G (c.fact 93 rfl)) (He.mkr_ok (c.fact 94 rfl)) hr (by decide))) (And.intro trivial trivial))) (And.intro (And.intro (And.intro (And.intro trivial trivial) trivial) (And.intro (And.intro (And.intro (And.intro (ok_is_empty.pure.call (He.glo_ok XK G (c.fact 65 rfl)) hr (by decide)) (And.intro trivial trivial)) (And.intro (And.intro (And.intro (And.intro (ok_searched.call (He.glo_ok XK G (c.fact 95 rfl)) hr (by decide)) (And.intro trivial (And.intro trivial (And.intro (And.intro trivial trivial) trivial)))) trivial) trivial) trivial)) trivial) trivial)) (And.intro (And.intro (And.intro (And.intro trivial trivial) trivial) (And.intro (And.intro (ok_is_numbered.pure.call (He.glo_ok XK G (c.fact 96 rfl)) hr (by decide)) (And.intro trivial trivial)) (And.intro (And.intro (ok_leaves_alone.pure.call (He.glo_ok XK G (c.fact 97 rfl)) hr (by decide)) (And.intro trivial (And.intro trivial (And.intro (And.intro trivial trivial) (And.intro trivial trivial))))) trivial))) trivial)))))⟩
theorem okf_keepers_shown (c : SaysX fx fn K) (XK : K.In base) (G : base.Ns mainGlobals mg) : FnF P w K mg base 13 (d_keepers_shown.adr K) F_keepers_shown := by
  obtain ⟨fd, F, H⟩ := okg_keepers_shown (P := P) (w := w) c XK G
  exact FnF.mk_ H (FunD.bindsN F fun _ _ _ _ _ _ us hl => match us, hl with | [_, _], _ => rfl) F.kp
theorem okg_accepts (c : SaysX fx fn K) (XK : K.In base) (G : base.Ns mainGlobals mg) : ∃ fd, FunD K d_accepts.name d_accepts.qual d_accepts.params d_accepts.body d_accepts.scope (d_accepts.dvs K) [] (d_accepts.adr K) fd ∧ FnG P w K mg base 15 (d_accepts.adr K) fd ps_accepts (spS K ps_accepts.length F_accepts) := by
  obtain ⟨fd, F⟩ := c.def_ 47 (d := d_accepts) rfl
  have ok_pair_shown := okf_pair_shown (P := P) (w := w) c XK G
  have ok_keepers_shown := okf_keepers_shown (P := P) (w := w) c XK G
  exact ⟨fd, F, fn_sound F sc_accepts m_accepts fun A hr _ => (And.intro (And.intro (And.intro (isi_bi (He.free_ok XK G (c.fact 14 rfl)) (He.free_ok XK G (c.fact 6 rfl)) ME.boot_tuple (cs_cons (insT_ok (c.fact 15 rfl)) (kOB_ok (c.fact 23 rfl)) (cs_cons (insT_ok (c.fact 17 rfl)) (kOB_ok (c.fact 24 rfl)) (cs_nil)))) trivial) (And.intro (And.intro trivial trivial) trivial)) (And.intro (And.intro (And.intro (And.intro (He.free_ok XK G (c.fact 0 rfl)) (And.intro trivial trivial)) trivial) (And.intro (And.intro (And.intro (ok_pair_shown.pure.call (He.glo_ok XK G (c.fact 98 rfl)) hr (by decide)) (And.intro (And.intro trivial trivial) (And.intro (And.intro trivial trivial) (And.intro trivial trivial)))) trivial) trivial)) (And.intro (And.intro (And.intro (And.intro (He.free_ok XK G (c.fact 0 rfl)) (And.intro trivial trivial)) trivial) (And.intro (And.intro (ok_keepers_shown.pure.call (He.glo_ok XK G (c.fact 99 rfl)) hr (by decide)) (And.intro trivial (And.intro trivial trivial))) trivial)) trivial)))⟩
theorem okf_accepts (c : SaysX fx fn K) (XK : K.In base) (G : base.Ns mainGlobals mg) : FnF P w K mg base 15 (d_accepts.adr K) F_accepts := by
  obtain ⟨fd, F, H⟩ := okg_accepts (P := P) (w := w) c XK G
  exact FnF.mk_ H (FunD.bindsN F fun _ _ _ _ _ _ us hl => match us, hl with | [_, _], _ => rfl) F.kp
theorem okg__law_line_right_k84 (c : SaysX fx fn K) (XK : K.In base) (G : base.Ns mainGlobals mg) : ∃ fd, FunD K d__law_line_right_k84.name d__law_line_right_k84.qual d__law_line_right_k84.params d__law_line_right_k84.body d__law_line_right_k84.scope (d__law_line_right_k84.dvs K) [] (d__law_line_right_k84.adr K) fd ∧ FnG P w K mg base 17 (d__law_line_right_k84.adr K) fd ps__law_line_right_k84 (spS K ps__law_line_right_k84.length F__law_line_right_k84) := by
  obtain ⟨fd, F⟩ := c.def_ 48 (d := d__law_line_right_k84) rfl
  have ok__law_read := okf__law_read (P := P) (w := w) c XK G
  have ok__law_least := okf__law_least (P := P) (w := w) c XK G
  have ok_accepts := okf_accepts (P := P) (w := w) c XK G
  exact ⟨fd, F, fn_sound F sc__law_line_right_k84 m__law_line_right_k84 fun A hr _ => (And.intro (And.intro trivial (And.intro (ok__law_read.pure.call (He.glo_ok XK G (c.fact 100 rfl)) hr (by decide)) (And.intro trivial trivial))) (And.intro (And.intro trivial (And.intro (And.intro trivial trivial) (And.intro (And.intro trivial (And.intro (And.intro (ok__law_least.pure.call (He.glo_ok XK G (c.fact 101 rfl)) hr (by decide)) (And.intro trivial trivial)) (And.intro (And.intro trivial trivial) trivial))) trivial))) (And.intro (And.intro (And.intro (And.intro (He.free_ok XK G (c.fact 102 rfl)) (And.intro (And.intro (ok_accepts.pure.call (He.glo_ok XK G (c.fact 103 rfl)) hr (by decide)) (And.intro (And.intro trivial (And.intro trivial trivial)) (And.intro trivial trivial))) trivial)) (And.intro (He.free_ok XK G (c.fact 102 rfl)) (And.intro trivial trivial))) (And.intro (And.intro trivial trivial) trivial)) (And.intro (And.intro (And.intro (And.intro (ok_accepts.pure.call (He.glo_ok XK G (c.fact 103 rfl)) hr (by decide)) (And.intro (And.intro trivial (And.intro trivial trivial)) (And.intro trivial trivial))) (And.intro (And.intro (ok_accepts.pure.call (He.glo_ok XK G (c.fact 103 rfl)) hr (by decide)) (And.intro (And.intro trivial (And.intro trivial trivial)) (And.intro (And.intro trivial trivial) trivial))) (And.intro (And.intro (ok_accepts.pure.call (He.glo_ok XK G (c.fact 103 rfl)) hr (by decide)) (And.intro (And.intro trivial (And.intro trivial trivial)) (And.intro (And.intro trivial trivial) trivial))) trivial))) (And.intro (And.intro trivial trivial) trivial)) (And.intro (And.intro trivial (And.intro (And.intro trivial trivial) (And.intro (And.intro (And.intro (And.intro trivial trivial) trivial) (And.intro (And.intro trivial trivial) trivial)) trivial))) (And.intro (And.intro (And.intro (And.intro trivial trivial) (And.intro (And.intro (And.intro (And.intro trivial trivial) trivial) trivial) (And.intro (And.intro (And.intro (And.intro trivial trivial) trivial) trivial) (And.intro (And.intro (And.intro trivial trivial) (And.intro (And.intro trivial trivial) (And.intro trivial trivial))) (And.intro (And.intro (And.intro (And.intro trivial trivial) trivial) trivial) trivial))))) (And.intro (And.intro (And.intro (And.intro trivial trivial) (And.intro (And.intro (ok_accepts.pure.call (He.glo_ok XK G (c.fact 103 rfl)) hr (by decide)) (And.intro (And.intro trivial (And.intro trivial trivial)) (And.intro (And.intro trivial (And.intro trivial trivial)) trivial))) trivial)) trivial) trivial)) (And.intro (And.intro (And.intro (He.free_ok XK G (c.fact 102 rfl)) (And.intro (And.intro (ok_accepts.pure.call (He.glo_ok XK G (c.fact 103 rfl)) hr (by decide)) (And.intro (And.intro trivial (And.intro trivial trivial)) (And.intro (And.intro trivial (And.intro trivial trivial)) trivial))) trivial)) trivial) trivial)))))))⟩
theorem okf__law_line_right_k84 (c : SaysX fx fn K) (XK : K.In base) (G : base.Ns mainGlobals mg) : FnF P w K mg base 17 (d__law_line_right_k84.adr K) F__law_line_right_k84 := by
  obtain ⟨fd, F, H⟩ := okg__law_line_right_k84 (P := P) (w := w) c XK G
  exact FnF.mk_ H (FunD.bindsN F fun _ _ _ _ _ _ us hl => match us, hl with | [_], _ => rfl) F.kp
theorem okg__law_text_k84 (c : SaysX fx fn K) (XK : K.In base) (G : base.Ns mainGlobals mg) : ∃ fd, FunD K d__law_text_k84.name d__law_text_k84.qual d__law_text_k84.params d__law_text_k84.body d__law_text_k84.scope (d__law_text_k84.dvs K) [] (d__law_text_k84.adr K) fd ∧ FnG P w K mg base 1 (d__law_text_k84.adr K) fd ps__law_text_k84 (spS K ps__law_text_k84.length F__law_text_k84) := by
  obtain ⟨fd, F⟩ := c.def_ 49 (d := d__law_text_k84) rfl
  exact ⟨fd, F, fn_sound F sc__law_text_k84 m__law_text_k84 fun A hr _ => (And.intro (And.intro trivial (And.intro (And.intro (He.free_ok XK G (c.fact 8 rfl)) (And.intro trivial trivial)) (And.intro trivial (And.intro (And.intro (And.intro trivial trivial) (And.intro trivial trivial)) trivial)))) (And.intro (And.intro trivial (And.intro (And.intro (isi_bi (He.free_ok XK G (c.fact 14 rfl)) (He.free_ok XK G (c.fact 8 rfl)) ME.boot_str (cs_cons (insT_ok (c.fact 15 rfl)) (kOB_ok (c.fact 27 rfl)) (cs_cons (insT_ok (c.fact 17 rfl)) (kOB_ok (c.fact 28 rfl)) (cs_nil)))) (And.intro trivial trivial)) (And.intro (And.intro trivial trivial) (And.intro trivial (And.intro (He.free_ok XK G (c.fact 8 rfl)) (And.intro (And.intro (And.intro trivial trivial) trivial) trivial)))))) (And.intro (And.intro trivial (And.intro (And.intro (And.intro (And.intro (And.intro (And.intro trivial trivial) (And.intro trivial (And.intro trivial (And.intro trivial trivial)))) (And.intro trivial trivial)) (And.intro trivial (And.intro (And.intro trivial trivial) trivial))) (And.intro trivial (And.intro trivial trivial))) trivial)) trivial)))⟩
theorem okf__law_text_k84 (c : SaysX fx fn K) (XK : K.In base) (G : base.Ns mainGlobals mg) : FnF P w K mg base 1 (d__law_text_k84.adr K) F__law_text_k84 := by
  obtain ⟨fd, F, H⟩ := okg__law_text_k84 (P := P) (w := w) c XK G
  exact FnF.mk_ H (FunD.bindsN F fun _ _ _ _ _ _ us hl => match us, hl with | [_], _ => rfl) F.kp
theorem okg__law_take (c : SaysX fx fn K) (XK : K.In base) (G : base.Ns mainGlobals mg) : ∃ fd, FunD K d__law_take.name d__law_take.qual d__law_take.params d__law_take.body d__law_take.scope (d__law_take.dvs K) [] (d__law_take.adr K) fd ∧ FnG P w K mg base 1 (d__law_take.adr K) fd ps__law_take (spS K ps__law_take.length F__law_take) := by
  obtain ⟨fd, F⟩ := c.def_ 50 (d := d__law_take) rfl
  exact ⟨fd, F, fn_sound F sc__law_take m__law_take fun A hr _ => (And.intro (And.intro (And.intro trivial trivial) (And.intro (And.intro trivial trivial) trivial)) (And.intro (And.intro (And.intro (And.intro trivial trivial) trivial) (And.intro (And.intro (And.intro (And.intro (And.intro trivial trivial) (And.intro trivial trivial)) (And.intro (He.free_ok XK G (c.fact 104 rfl)) (And.intro (And.intro trivial trivial) (And.intro trivial trivial)))) (And.intro trivial trivial)) trivial)) (And.intro (And.intro (And.intro (He.free_ok XK G (c.fact 2 rfl)) (And.intro (And.intro trivial trivial) trivial)) (And.intro trivial trivial)) (And.intro (And.intro trivial (And.intro (And.intro (And.intro (He.free_ok XK G (c.fact 2 rfl)) (And.intro (And.intro trivial trivial) trivial)) trivial) trivial)) (And.intro (And.intro (And.intro trivial trivial) (And.intro (And.intro (He.free_ok XK G (c.fact 2 rfl)) (And.intro (And.intro (And.intro (And.intro trivial trivial) (And.intro (And.intro trivial trivial) trivial)) trivial) trivial)) trivial)) (And.intro (And.intro (And.intro (He.free_ok XK G (c.fact 2 rfl)) (And.intro (And.intro (And.intro trivial trivial) trivial) trivial)) trivial) trivial))))))⟩
theorem okf__law_take (c : SaysX fx fn K) (XK : K.In base) (G : base.Ns mainGlobals mg) : FnF P w K mg base 1 (d__law_take.adr K) F__law_take := by
  obtain ⟨fd, F, H⟩ := okg__law_take (P := P) (w := w) c XK G
  exact FnF.mk_ H (FunD.bindsN F fun _ _ _ _ _ _ us hl => match us, hl with | [_, _], _ => rfl) F.kp
theorem okg__law_one (c : SaysX fx fn K) (XK : K.In base) (G : base.Ns mainGlobals mg) : ∃ fd, FunD K d__law_one.name d__law_one.qual d__law_one.params d__law_one.body d__law_one.scope (d__law_one.dvs K) [] (d__law_one.adr K) fd ∧ FnG P w K mg base 3 (d__law_one.adr K) fd ps__law_one (spS K ps__law_one.length F__law_one) := by
  obtain ⟨fd, F⟩ := c.def_ 51 (d := d__law_one) rfl
  have ok__law_take := okf__law_take (P := P) (w := w) c XK G
  exact ⟨fd, F, fn_sound F sc__law_one m__law_one fun A hr _ => (And.intro (And.intro trivial (And.intro (ok__law_take.call (He.glo_ok XK G (c.fact 105 rfl)) hr (by decide)) (And.intro trivial (And.intro (And.intro (He.free_ok XK G (c.fact 0 rfl)) (And.intro trivial trivial)) trivial)))) trivial)⟩
theorem okf__law_one (c : SaysX fx fn K) (XK : K.In base) (G : base.Ns mainGlobals mg) : FnF P w K mg base 3 (d__law_one.adr K) F__law_one := by
  obtain ⟨fd, F, H⟩ := okg__law_one (P := P) (w := w) c XK G
  exact FnF.mk_ H (FunD.bindsN F fun _ _ _ _ _ _ us hl => match us, hl with | [_, _], _ => rfl) F.kp
theorem okg__law_duo_k74 (c : SaysX fx fn K) (XK : K.In base) (G : base.Ns mainGlobals mg) : ∃ fd, FunD K d__law_duo_k74.name d__law_duo_k74.qual d__law_duo_k74.params d__law_duo_k74.body d__law_duo_k74.scope (d__law_duo_k74.dvs K) [] (d__law_duo_k74.adr K) fd ∧ FnG P w K mg base 5 (d__law_duo_k74.adr K) fd ps__law_duo_k74 (spS K ps__law_duo_k74.length F__law_duo_k74) := by
  obtain ⟨fd, F⟩ := c.def_ 52 (d := d__law_duo_k74) rfl
  have ok__law_one := okf__law_one (P := P) (w := w) c XK G
  have ok__law_take := okf__law_take (P := P) (w := w) c XK G
  exact ⟨fd, F, fn_sound F sc__law_duo_k74 m__law_duo_k74 fun A hr _ => (And.intro (And.intro (And.intro (ok__law_one.call (He.glo_ok XK G (c.fact 106 rfl)) hr (by decide)) (And.intro trivial (And.intro (And.intro trivial (And.intro trivial (And.intro trivial (And.intro trivial (And.intro trivial trivial))))) trivial))) (And.intro (ok__law_one.call (He.glo_ok XK G (c.fact 106 rfl)) hr (by decide)) (And.intro trivial (And.intro (And.intro trivial (And.intro trivial (And.intro trivial (And.intro trivial trivial)))) trivial)))) (And.intro (And.intro (And.intro (ok__law_one.call (He.glo_ok XK G (c.fact 106 rfl)) hr (by decide)) (And.intro trivial (And.intro (And.intro trivial (And.intro trivial (And.intro trivial (And.intro trivial trivial)))) trivial))) (And.intro (ok__law_one.call (He.glo_ok XK G (c.fact 106 rfl)) hr (by decide)) (And.intro trivial (And.intro (And.intro trivial (And.intro trivial (And.intro trivial (And.intro trivial (And.intro trivial trivial))))) trivial)))) (And.intro (And.intro trivial (And.intro (ok__law_one.call (He.glo_ok XK G (c.fact 106 rfl)) hr (by decide)) (And.intro trivial (And.intro (And.intro (And.intro trivial trivial) (And.intro (And.intro trivial trivial) (And.intro (And.intro trivial (And.intro (ok__law_take.call (He.glo_ok XK G (c.fact 105 rfl)) hr (by decide)) (And.intro trivial (And.intro trivial trivial)))) trivial))) trivial)))) (And.intro (And.intro (And.intro trivial (And.intro trivial trivial)) (And.intro (ok__law_one.call (He.glo_ok XK G (c.fact 106 rfl)) hr (by decide)) (And.intro trivial (And.intro (And.intro (And.intro trivial (And.intro trivial trivial)) (And.intro (And.intro trivial (And.intro trivial trivial)) (And.intro (And.intro (And.intro trivial trivial) (And.intro (And.intro trivial trivial) trivial)) trivial))) trivial)))) (And.intro (And.intro trivial (And.intro trivial (And.intro (ok__law_one.call (He.glo_ok XK G (c.fact 106 rfl)) hr (by decide)) (And.intro trivial (And.intro (And.intro trivial (And.intro trivial (And.intro trivial trivial))) trivial))))) (And.intro (And.intro trivial (And.intro trivial (And.intro trivial (And.intro trivial (And.intro (And.intro trivial (And.intro trivial trivial)) (And.intro (And.intro trivial (And.intro trivial trivial)) (And.intro (And.intro trivial (And.intro (And.intro trivial (And.intro (ok__law_take.call (He.glo_ok XK G (c.fact 105 rfl)) hr (by decide)) (And.intro trivial (And.intro trivial trivial)))) trivial)) trivial))))))) (And.intro (And.intro trivial (And.intro (ok__law_one.call (He.glo_ok XK G (c.fact 106 rfl)) hr (by decide)) (And.intro trivial (And.intro trivial trivial)))) (And.intro (And.intro (And.intro trivial (And.intro (And.intro trivial (And.intro (ok__law_take.call (He.glo_ok XK G (c.fact 105 rfl)) hr (by decide)) (And.intro trivial (And.intro trivial trivial)))) (And.intro trivial trivial))) (And.intro trivial (And.intro (And.intro trivial (And.intro (ok__law_take.call (He.glo_ok XK G (c.fact 105 rfl)) hr (by decide)) (And.intro trivial (And.intro trivial trivial)))) (And.intro (And.intro trivial trivial) trivial)))) (And.intro (And.intro trivial (And.intro trivial (And.intro trivial trivial))) trivial)))))))))⟩
theorem okf__law_duo_k74 (c : SaysX fx fn K) (XK : K.In base) (G : base.Ns mainGlobals mg) : FnF P w K mg base 5 (d__law_duo_k74.adr K) F__law_duo_k74 := by
  obtain ⟨fd, F, H⟩ := okg__law_duo_k74 (P := P) (w := w) c XK G
  exact FnF.mk_ H (FunD.bindsN F fun _ _ _ _ _ _ us hl => match us, hl with | [_, _], _ => rfl) F.kp
theorem okg__law_bent_k84 (c : SaysX fx fn K) (XK : K.In base) (G : base.Ns mainGlobals mg) : ∃ fd, FunD K d__law_bent_k84.name d__law_bent_k84.qual d__law_bent_k84.params d__law_bent_k84.body d__law_bent_k84.scope (d__law_bent_k84.dvs K) [] (d__law_bent_k84.adr K) fd ∧ FnG P w K mg base 5 (d__law_bent_k84.adr K) fd ps__law_bent_k84 (spS K ps__law_bent_k84.length F__law_bent_k84) := by
  obtain ⟨fd, F⟩ := c.def_ 53 (d := d__law_bent_k84) rfl
  have ok__law_take := okf__law_take (P := P) (w := w) c XK G
  have ok__law_one := okf__law_one (P := P) (w := w) c XK G
  exact ⟨fd, F, fn_sound F sc__law_bent_k84 m__law_bent_k84 fun A hr _ => (And.intro (And.intro (And.intro (ok__law_take.call (He.glo_ok XK G (c.fact 105 rfl)) hr (by decide)) (And.intro trivial (And.intro trivial trivial))) (And.intro (ok__law_take.call (He.glo_ok XK G (c.fact 105 rfl)) hr (by decide)) (And.intro trivial (And.intro (And.intro (And.intro (He.free_ok XK G (c.fact 0 rfl)) (And.intro trivial trivial)) trivial) trivial)))) (And.intro (And.intro trivial (And.intro trivial (And.intro (ok__law_take.call (He.glo_ok XK G (c.fact 105 rfl)) hr (by decide)) (And.intro trivial (And.intro trivial trivial))))) (And.intro (And.intro (And.intro trivial trivial) (And.intro (And.intro (And.intro (And.intro (And.intro (And.intro (And.intro trivial (And.intro trivial (And.intro trivial trivial))) trivial) (And.intro trivial (And.intro (And.intro trivial trivial) trivial))) (And.intro (And.intro (And.intro trivial (And.intro trivial (And.intro trivial trivial))) (And.intro trivial (And.intro (And.intro (And.intro trivial trivial) trivial) trivial))) (And.intro (And.intro (And.intro (And.intro trivial (And.intro trivial (And.intro trivial trivial))) trivial) (And.intro trivial (And.intro (And.intro (And.intro trivial trivial) trivial) trivial))) trivial))) trivial) trivial) trivial)) (And.intro (And.intro trivial (And.intro trivial (And.intro trivial trivial))) (And.intro (And.intro trivial (And.intro (ok__law_take.call (He.glo_ok XK G (c.fact 105 rfl)) hr (by decide)) (And.intro trivial (And.intro (And.intro (He.free_ok XK G (c.fact 0 rfl)) (And.intro trivial trivial)) trivial)))) (And.intro (And.intro (And.intro trivial (And.intro trivial (And.intro trivial trivial))) (And.intro trivial (And.intro (And.intro (And.intro trivial trivial) trivial) trivial))) (And.intro (And.intro trivial (And.intro (ok__law_one.call (He.glo_ok XK G (c.fact 106 rfl)) hr (by decide)) (And.intro trivial (And.intro (And.intro trivial (And.intro trivial (And.intro trivial (And.intro trivial (And.intro trivial (And.intro trivial (And.intro trivial (And.intro trivial (And.intro trivial (And.intro (And.intro (He.free_ok XK G (c.fact 8 rfl)) (And.intro (And.intro trivial trivial) trivial)) (And.intro trivial trivial))))))))))) trivial)))) (And.intro (And.intro trivial (And.intro (And.intro (And.intro trivial (And.intro trivial trivial)) trivial) (And.intro (And.intro trivial trivial) trivial))) (And.intro (And.intro trivial (And.intro (And.intro (And.intro (And.intro trivial (And.intro trivial (And.intro trivial (And.intro trivial trivial)))) (And.intro trivial (And.intro (And.intro trivial trivial) (And.intro (And.intro trivial trivial) trivial)))) (And.intro trivial (And.intro (And.intro trivial trivial) trivial))) trivial)) (And.intro (And.intro trivial (And.intro (And.intro (And.intro trivial (And.intro (And.intro (And.intro trivial (And.intro (And.intro trivial (And.intro (And.intro trivial trivial) (And.intro (And.intro trivial trivial) trivial))) trivial)) trivial) (And.intro (And.intro trivial (And.intro trivial trivial)) trivial))) (And.intro trivial trivial)) trivial)) trivial))))))))))⟩
theorem okf__law_bent_k84 (c : SaysX fx fn K) (XK : K.In base) (G : base.Ns mainGlobals mg) : FnF P w K mg base 5 (d__law_bent_k84.adr K) F__law_bent_k84 := by
  obtain ⟨fd, F, H⟩ := okg__law_bent_k84 (P := P) (w := w) c XK G
  exact FnF.mk_ H (FunD.bindsN F fun _ _ _ _ _ _ us hl => match us, hl with | [_, _], _ => rfl) F.kp
theorem okg__law_right_k84 (c : SaysX fx fn K) (XK : K.In base) (G : base.Ns mainGlobals mg) : ∃ fd, FunD K d__law_right_k84.name d__law_right_k84.qual d__law_right_k84.params d__law_right_k84.body d__law_right_k84.scope (d__law_right_k84.dvs K) [] (d__law_right_k84.adr K) fd ∧ FnG P w K mg base 19 (d__law_right_k84.adr K) fd ps__law_right_k84 (spS K ps__law_right_k84.length F__law_right_k84) := by
  obtain ⟨fd, F⟩ := c.def_ 54 (d := d__law_right_k84) rfl
  have ok__law_text_k84 := okf__law_text_k84 (P := P) (w := w) c XK G
  have ok__law_duo_k74 := okf__law_duo_k74 (P := P) (w := w) c XK G
  have ok__law_one := okf__law_one (P := P) (w := w) c XK G
  have ok__law_take := okf__law_take (P := P) (w := w) c XK G
  have ok__law_line_right_k84 := okf__law_line_right_k84 (P := P) (w := w) c XK G
  have ok__law_bent_k84 := okf__law_bent_k84 (P := P) (w := w) c XK G
  exact ⟨fd, F, fn_sound F sc__law_right_k84 m__law_right_k84 fun A hr _ => (And.intro (And.intro trivial (And.intro (ok__law_text_k84.pure.call (He.glo_ok XK G (c.fact 107 rfl)) hr (by decide)) (And.intro (And.intro (ok__law_duo_k74.call (He.glo_ok XK G (c.fact 108 rfl)) hr (by decide)) (And.intro trivial (And.intro (And.intro (ok__law_one.call (He.glo_ok XK G (c.fact 106 rfl)) hr (by decide)) (And.intro trivial (And.intro (And.intro trivial (And.intro trivial (And.intro (And.intro trivial trivial) trivial))) trivial))) trivial))) trivial))) (And.intro (And.intro trivial (And.intro (And.intro (He.free_ok XK G (c.fact 81 rfl)) (And.intro trivial (And.intro (ok__law_take.call (He.glo_ok XK G (c.fact 105 rfl)) hr (by decide)) (And.intro trivial (And.intro trivial trivial))))) (And.intro (And.intro (And.intro (ok__law_line_right_k84.pure.call (He.glo_ok XK G (c.fact 109 rfl)) hr (by decide)) (And.intro trivial trivial)) (And.intro (And.intro trivial trivial) trivial)) (And.intro (And.intro trivial (And.intro (ok__law_bent_k84.call (He.glo_ok XK G (c.fact 110 rfl)) hr (by decide)) (And.intro trivial (And.intro trivial trivial)))) trivial)))) (And.intro (And.intro (ok__law_line_right_k84.pure.call (He.glo_ok XK G (c.fact 109 rfl)) hr (by decide)) (And.intro trivial trivial)) trivial)))⟩
theorem okf__law_right_k84 (c : SaysX fx fn K) (XK : K.In base) (G : base.Ns mainGlobals mg) : FnF P w K mg base 19 (d__law_right_k84.adr K) F__law_right_k84 := by
  obtain ⟨fd, F, H⟩ := okg__law_right_k84 (P := P) (w := w) c XK G
  exact FnF.mk_ H (FunD.bindsN F fun _ _ _ _ _ _ us hl => match us, hl with | [_], _ => rfl) F.kp
theorem okg__law_purse (c : SaysX fx fn K) (XK : K.In base) (G : base.Ns mainGlobals mg) : ∃ fd, FunD K d__law_purse.name d__law_purse.qual d__law_purse.params d__law_purse.body d__law_purse.scope (d__law_purse.dvs K) [] (d__law_purse.adr K) fd ∧ FnG P w K mg base 1 (d__law_purse.adr K) fd ps__law_purse (spS K ps__law_purse.length F__law_purse) := by
  obtain ⟨fd, F⟩ := c.def_ 55 (d := d__law_purse) rfl
  exact ⟨fd, F, fn_sound F sc__law_purse m__law_purse fun A hr _ => (And.intro (And.intro trivial (And.intro (And.intro trivial (And.intro (He.free_ok XK G (c.fact 0 rfl)) (And.intro trivial trivial))) (And.intro (And.intro trivial trivial) (And.intro (And.intro trivial trivial) trivial)))) (And.intro (And.intro (And.intro trivial (And.intro (He.free_ok XK G (c.fact 0 rfl)) (And.intro trivial trivial))) (And.intro (And.intro (And.intro trivial (And.intro (And.intro trivial (And.intro trivial (And.intro trivial trivial))) (And.intro (And.intro trivial (And.intro (And.intro (He.free_ok XK G (c.fact 2 rfl)) (And.intro (And.intro (And.intro trivial trivial) (And.intro trivial (And.intro trivial trivial))) trivial)) trivial)) trivial))) trivial) trivial)) (And.intro (And.intro trivial (And.intro (And.intro (And.intro trivial trivial) (And.intro (And.intro trivial (And.intro trivial trivial)) trivial)) (And.intro (And.intro (He.free_ok XK G (c.fact 111 rfl)) (And.intro trivial trivial)) trivial))) (And.intro (And.intro (And.intro (And.intro (He.free_ok XK G (c.fact 2 rfl)) (And.intro trivial trivial)) trivial) (And.intro trivial (And.intro trivial trivial))) trivial))))⟩
theorem okf__law_purse (c : SaysX fx fn K) (XK : K.In base) (G : base.Ns mainGlobals mg) : FnF P w K mg base 1 (d__law_purse.adr K) F__law_purse := by
  obtain ⟨fd, F, H⟩ := okg__law_purse (P := P) (w := w) c XK G
  exact FnF.mk_ H (FunD.bindsN F fun _ _ _ _ _ _ us hl => match us, hl with | [_, _], _ => rfl) F.kp
theorem okg_law_k84 (c : SaysX fx fn K) (XK : K.In base) (G : base.Ns mainGlobals mg) : ∃ fd, FunD K d_law_k84.name d_law_k84.qual d_law_k84.params d_law_k84.body d_law_k84.scope (d_law_k84.dvs K) [] (d_law_k84.adr K) fd ∧ FnG P w K mg base 21 (d_law_k84.adr K) fd ps_law_k84 (spS K ps_law_k84.length F_law_k84) := by
  obtain ⟨fd, F⟩ := c.def_ 56 (d := d_law_k84) rfl
  have ok__law_line_right_k84 := okf__law_line_right_k84 (P := P) (w := w) c XK G
  have ok__law_right_k84 := okf__law_right_k84 (P := P) (w := w) c XK G
  have ok__law_purse := okf__law_purse (P := P) (w := w) c XK G
  exact ⟨fd, F, fn_sound F sc_law_k84 m_law_k84 fun A hr _ => (And.intro (And.intro (And.intro trivial (And.intro trivial (And.intro trivial trivial))) (And.intro trivial (And.intro (And.intro (He.free_ok XK G (c.fact 8 rfl)) (And.intro (And.intro trivial trivial) trivial)) (And.intro (And.intro (He.free_ok XK G (c.fact 8 rfl)) (And.intro (And.intro (And.intro trivial trivial) trivial) trivial)) trivial)))) (And.intro (And.intro trivial (And.intro (And.intro trivial trivial) (And.intro trivial (And.intro (And.intro trivial (And.intro trivial (And.intro trivial (And.intro trivial (And.intro trivial (And.intro trivial (And.intro trivial (And.intro trivial trivial)))))))) trivial)))) (And.intro (And.intro trivial (And.intro trivial (And.intro (And.intro trivial trivial) (And.intro trivial (And.intro (And.intro (And.intro trivial trivial) (And.intro (And.intro trivial trivial) (And.intro trivial (And.intro trivial (And.intro trivial (And.intro trivial trivial)))))) trivial))))) (And.intro (And.intro trivial (And.intro trivial (And.intro (And.intro (And.intro trivial trivial) trivial) (And.intro trivial (And.intro (And.intro trivial (And.intro trivial (And.intro trivial (And.intro trivial trivial)))) trivial))))) (And.intro (And.intro trivial (And.intro trivial (And.intro trivial (And.intro (And.intro (And.intro trivial trivial) trivial) (And.intro trivial (And.intro trivial (And.intro trivial trivial))))))) (And.intro (And.intro trivial (And.intro trivial (And.intro trivial (And.intro trivial trivial)))) (And.intro (And.intro (And.intro (He.free_ok XK G (c.fact 1 rfl)) (And.intro (And.intro (And.intro (ok__law_line_right_k84.pure.call (He.glo_ok XK G (c.fact 109 rfl)) hr (by decide)) (And.intro trivial trivial)) (And.intro trivial (And.intro trivial trivial))) trivial)) (And.intro (And.intro trivial trivial) trivial)) (And.intro (And.intro (He.free_ok XK G (c.fact 1 rfl)) (And.intro (And.intro (And.intro (ok__law_right_k84.call (He.glo_ok XK G (c.fact 112 rfl)) hr (by decide)) (And.intro (And.intro (ok__law_purse.call (He.glo_ok XK G (c.fact 113 rfl)) hr (by decide)) (And.intro trivial (And.intro trivial trivial))) trivial)) (And.intro trivial (And.intro (And.intro (He.free_ok XK G (c.fact 81 rfl)) (And.intro (He.free_ok XK G (c.fact 5 rfl)) (And.intro trivial (And.intro (And.intro (He.free_ok XK G (c.fact 4 rfl)) (And.intro (And.intro (He.free_ok XK G (c.fact 0 rfl)) (And.intro trivial trivial)) (And.intro trivial trivial))) trivial)))) trivial))) trivial)) trivial))))))))⟩
theorem okf_law_k84 (c : SaysX fx fn K) (XK : K.In base) (G : base.Ns mainGlobals mg) : FnF P w K mg base 21 (d_law_k84.adr K) F_law_k84 := by
  obtain ⟨fd, F, H⟩ := okg_law_k84 (P := P) (w := w) c XK G
  exact FnF.mk_ H (FunD.bindsN F fun _ _ _ _ _ _ us hl => match us, hl with | [_], _ => rfl) F.kp
end
end T84
set_option Elab.async false
set_option linter.all false
set_option maxRecDepth 100000
set_option maxHeartbeats 0
section
open PySem PySem.W PySem.Calls PyProof.Rows
theorem T84.head_end (h : ∀ ns : List Int, (∀ z ∈ ns, Builtin.Int.intBits z ≤ 1048576) → ∃ m, PG.F_law_k84 [.rol (ns.map ME.D.int)] [] = .ok (.bl true) m) : PySem.Challenge.rw_shelfwithin_k84_whole_texts_of_pairs_in.Holds := by
  w_on; o_law
  refine HandSHeadRun.head_any (r := T84.R) (q := view T84.R.prog [75]) (H := T84.hk) (ob := T84.ob) (M := 8000) (loose := T84.names) (kwd := []) T84.ob_eq (by kernel_rfl) (fun s => by kernel_rfl) T84.run (by rfl) (by rfl) (by rfl) (by rfl) (by first | assumption | decide +kernel) (by decide +kernel) ⟨rfl, rfl, rfl, rfl, rfl, by decide +kernel⟩ ?hw ?hc
  case hw => w_witness2
  case hc =>
    refine ME.walkG (n := 63) (k := 21) rfl (by decide +kernel) rfl ⟨rfl, by decide +kernel, by decide +kernel⟩ fun w mg fa h0 y G hfa => ?_
    obtain ⟨K, XK, c⟩ := y
    refine ⟨K, PG.F_law_k84, XK, fun base hK hG => ?_, fun ns _ hb => h ns hb⟩
    have e := He.glo_ok XK G (c.fact 114 (f := .a (.glo "law")) rfl)
    have e2 : some (Value.ref (He.ga K "law")) = some (Value.ref fa) := e.symm.trans hfa
    cases e2
    exact T84.okf_law_k84 (P := T84.R.prog) (w := w) c hK hG
end
set_option Elab.async false
set_option linter.all false
set_option maxRecDepth 100000
set_option maxHeartbeats 8000000
namespace PQ
open PySem PySem.Spec L2 ME PG
theorem kit_int_int : kitB "int" "int" = some true := by decide +kernel
theorem kit_int_bool : kitB "int" "bool" = some false := by decide +kernel
theorem kit_int_str : kitB "int" "str" = some false := by decide +kernel
theorem kit_int_tuple : kitB "int" "tuple" = some false := by decide +kernel
theorem kit_str_int : kitB "str" "int" = some false := by decide +kernel
theorem kit_str_str : kitB "str" "str" = some true := by decide +kernel
theorem kit_str_tuple : kitB "str" "tuple" = some false := by decide +kernel
theorem kit_str_bool : kitB "str" "bool" = some false := by decide +kernel
theorem kit_tuple_tuple : kitB "tuple" "tuple" = some true := by decide +kernel
theorem kit_tuple_str : kitB "tuple" "str" = some false := by decide +kernel
theorem kit_tuple_int : kitB "tuple" "int" = some false := by decide +kernel
theorem kit_bool_tuple : kitB "bool" "tuple" = some false := by decide +kernel
theorem kit_bool_int : kitB "bool" "int" = some true := by decide +kernel
theorem kit_bool_bool : kitB "bool" "bool" = some true := by decide +kernel
theorem kit_bool_str : kitB "bool" "str" = some false := by decide +kernel
theorem kit_none_tuple : kitB "NoneType" "tuple" = some false := by decide +kernel
theorem kit_none_str : kitB "NoneType" "str" = some false := by decide +kernel
theorem kit_none_int : kitB "NoneType" "int" = some false := by decide +kernel
theorem kit_list_tuple : kitB "list" "tuple" = some false := by decide +kernel
theorem kit_list_str : kitB "list" "str" = some false := by decide +kernel
theorem kit_list_int : kitB "list" "int" = some false := by decide +kernel
theorem kit_dict_tuple : kitB "dict" "tuple" = some false := by decide +kernel
theorem kit_dict_str : kitB "dict" "str" = some false := by decide +kernel
theorem kit_dict_int : kitB "dict" "int" = some false := by decide +kernel
/-! ### the purse -/
structure Pu (m : Sto) (n L : Nat) : Prop where
  ex : ∃ a b c : Int, m[n]? = some (.lst [.int a, .int b, .int c]) ∧ 0 ≤ a ∧ a < 2147483323 ∧ 0 ≤ b ∧ 0 ≤ c ∧ c ≤ L
/-- all but the purse stays -/
structure Rest (n : Nat) (m m' : Sto) : Prop where
  len : m.length ≤ m'.length
  keep : ∀ j, j < m.length → j ≠ n → m'[j]? = m[j]?
theorem Rest.refl (n : Nat) (m : Sto) : Rest n m m := ⟨Nat.le_refl _, fun _ _ _ => rfl⟩
theorem Rest.trans {n : Nat} {m m1 m2 : Sto} (a : Rest n m m1) (b : Rest n m1 m2) : Rest n m m2 :=
  ⟨Nat.le_trans a.len b.len, fun j h1 h2 => (b.keep j (Nat.lt_of_lt_of_le h1 a.len) h2).trans (a.keep j h1 h2)⟩
theorem Rest.set {n : Nat} {m : Sto} {c : Cell} : Rest n m (m.set n c) := ⟨by simp, fun j _ h => by rw [List.getElem?_set_ne (Ne.symm h)]⟩
theorem p_take {m : Sto} {n L : Nat} {k : Int} (hp : Pu m n L) (hL : L < 1000000000) (hk : 0 < k) (hb : k.natAbs.log2 < 9000) :
    ∃ t m', F__law_take [.ref n, .int k] m = .ok (.int t) m' ∧ 0 ≤ t ∧ t < k ∧ Pu m' n (L + 1) ∧ Rest n m m' ∧ m'.length = m.length := by
  obtain ⟨a, b, c, e, h1, h2, h3, h4, h5⟩ := hp.ex
  have hn : n < m.length := (List.getElem?_eq_some_iff.mp e).1
  have hs : ∀ c', (m.set n c')[n]? = some c' := fun c' => by rw [List.getElem?_set_self hn]
  have s2 : ∀ v, evSub (.ref n) (.int 2) v m = some (m.set n (.lst [.int a, .int b, v])) := fun v => sub_ref (j := 2) e (by simp) rfl
  have i2 : evIdx (.ref n) (.int 2) m = .ok (.int c) m := by rw [idx_ref e, at2]; rfl
  generalize hm1 : m.set n (.lst [.int a, .int b, .int (c + 1)]) = m1 at *
  have e1 : m1[n]? = some (.lst [.int a, .int b, .int (c + 1)]) := by rw [← hm1]; exact hs _
  have hn1 : n < m1.length := (List.getElem?_eq_some_iff.mp e1).1
  have r1 : Rest n m m1 := by rw [← hm1]; exact Rest.set
  have l1 : m1.length = m.length := by rw [← hm1]; simp
  have s2' : evSub (.ref n) (.int 2) (.int (c + 1)) m = some m1 := by rw [s2, hm1]
  have j1 : evIdx (.ref n) (.int 1) m1 = .ok (.int b) m1 := by rw [idx_ref e1, at1]; rfl
  by_cases hb0 : 0 < b
  · refine ⟨b % k, m1.set n (.lst [.int a, .int (b / k), .int (c + 1)]), ?_, Int.emod_nonneg _ (by omega), Int.emod_lt_of_pos _ hk, ⟨a, b / k, c + 1, by rw [List.getElem?_set_self hn1], h1, h2, Int.ediv_nonneg h3 (by omega), by omega, by omega⟩, r1.trans Rest.set, by simpa using l1⟩
    have t1 : evSub (.ref n) (.int 1) (.int (b / k)) m1 = some (m1.set n (.lst [.int a, .int (b / k), .int (c + 1)])) := sub_ref (j := 1) e1 (by simp) rfl
    simp [F__law_take, runF, ps__law_take, N__law_take, s__law_take, exs, ex, ev, evs, asgn, asgns, seqOf, s2', i2, j1, t1, hb0, divmod_ok hk hb]
  · have j0 : evIdx (.ref n) (.int 0) m1 = .ok (.int a) m1 := by rw [idx_ref e1, at0]; rfl
    have j2 : evIdx (.ref n) (.int 2) m1 = .ok (.int (c + 1)) m1 := by rw [idx_ref e1, at2]; rfl
    generalize hq : (a * (a / 17 % 39983 + 30097) + 50033 * (c + 1) * (c + 1) + 43) % 2147483323 = q
    have q1 : 0 ≤ q := by rw [← hq]; exact Int.emod_nonneg _ (by decide)
    have q2 : q < 2147483323 := by rw [← hq]; exact Int.emod_lt_of_pos _ (by decide)
    generalize hm2 : m1.set n (.lst [.int q, .int b, .int (c + 1)]) = m2
    have e2 : m2[n]? = some (.lst [.int q, .int b, .int (c + 1)]) := by rw [← hm2, List.getElem?_set_self hn1]
    have t0 : evSub (.ref n) (.int 0) (.int q) m1 = some m2 := by rw [← hm2]; exact sub_ref (j := 0) e1 (by simp) rfl
    have k0 : evIdx (.ref n) (.int 0) m2 = .ok (.int q) m2 := by rw [idx_ref e2, at0]; rfl
    refine ⟨q / 128 % k, m2, ?_, Int.emod_nonneg _ (by omega), Int.emod_lt_of_pos _ hk, ⟨q, b, c + 1, e2, q1, q2, h3, by omega, by omega⟩, r1.trans (by rw [← hm2]; exact Rest.set), by rw [← hm2]; simpa using l1⟩
    have x1 : evBin .Mult (.int a) (.int (a / 17 % 39983 + 30097)) m1 = .ok (.int (a * (a / 17 % 39983 + 30097))) m1 := mul_l (by omega)
    have x2 : evBin .Mult (.int 50033) (.int (c + 1)) m1 = .ok (.int (50033 * (c + 1))) m1 := mul_l (by omega)
    have x3 : evBin .Mult (.int (50033 * (c + 1))) (.int (c + 1)) m1 = .ok (.int (50033 * (c + 1) * (c + 1))) m1 := mul_r (by omega)
    have x4 : evBin .FloorDiv (.int a) (.int 17) m1 = .ok (.int (a / 17)) m1 := fdiv_ok (by decide) (by decide)
    have x5 : evBin .FloorDiv (.int q) (.int 128) m2 = .ok (.int (q / 128)) m2 := fdiv_ok (by decide) (by decide)
    have x6 : evBin .Mod (.int (a / 17)) (.int 39983) m1 = .ok (.int (a / 17 % 39983)) m1 := mod_ok (by decide)
    have x7 : evBin .Mod (.int (a * (a / 17 % 39983 + 30097) + 50033 * (c + 1) * (c + 1) + 43)) (.int 2147483323) m1 = .ok (.int q) m1 := by rw [← hq]; exact mod_ok (by decide)
    have x8 : evBin .Mod (.int (q / 128)) (.int k) m2 = .ok (.int (q / 128 % k)) m2 := mod_ok hk
    simp [F__law_take, runF, ps__law_take, N__law_take, s__law_take, exs, ex, ev, evs, asgn, asgns, seqOf, s2', i2, j1, hb0, j0, j2, x1, x2, x3, x4, x5, x6, x7, x8, t0, k0]
theorem log_small {k : Int} (h : 0 < k) (h2 : k < 2 ^ 1000) : k.natAbs.log2 < 9000 := by
  have h3 : k.natAbs < 2 ^ 1000 := by omega
  have h4 : k.natAbs ≠ 0 := by omega
  exact Nat.lt_of_lt_of_le ((Nat.log2_lt h4).mpr h3) (by decide)
theorem p_one {m : Sto} {n L : Nat} {ds : List D} (hp : Pu m n L) (hL : L < 1000000000) (h0 : 0 < ds.length) (h1 : ds.length < 1000000) :
    ∃ d m', F__law_one [.ref n, .lst ds] m = .ok d m' ∧ d ∈ ds ∧ Pu m' n (L + 1) ∧ Rest n m m' ∧ m'.length = m.length := by
  obtain ⟨t, m1, e, t0, t1, pu, r, l⟩ := p_take (k := (ds.length : Int)) hp hL (by omega) (log_small (by omega) (by
    have : (1000000 : Int) < 2 ^ 1000 := by decide +kernel
    omega))
  have hl : t.toNat < ds.length := by omega
  have ha : atI ds t = some ds[t.toNat] := atN (i := t.toNat) (List.getElem?_eq_getElem hl) (by omega)
  refine ⟨ds[t.toNat], m1, ?_, List.getElem_mem hl, pu, r, l⟩
  simp [F__law_one, runF, ps__law_one, N__law_one, s__law_one, exs, ex, ev, evs, e, ha]
/-- what is heard -/
def Hears (h : D) : Prop := h = .str "misses" ∨ h = .str "moved" ∨ ∃ e : Int, h = .tup [.str "each", .int e] ∧ 0 ≤ e ∧ e ≤ 1000000000000000000000000000000
def Num (i : Int) : Prop := 1 ≤ i ∧ i ≤ 1000000000000000000000000000000
structure Mi (us uw un ls lw ln : Int) (h : D) : Prop where
  n1 : Num us
  n2 : Num uw
  n3 : Num un
  n4 : Num ls
  n5 : Num lw
  n6 : Num ln
  dv : ln % un = 0
  hh : Hears h
def mine (us uw un ls lw ln : Int) (h : D) : D := .tup [.tup [.int us, .int uw, .int un], .tup [.int ls, .int lw, .int ln], h]
theorem p_duo {m : Sto} {n L : Nat} {size : Int} (hp : Pu m n L) (hL : L < 900000000) (hz : size = 1 ∨ size = 100000000000000000000) :
    ∃ us uw un ls lw ln h m', F__law_duo_k74 [.ref n, .int size] m = .ok (mine us uw un ls lw ln h) m' ∧ Mi us uw un ls lw ln h ∧ Pu m' n (L + 20) ∧ Rest n m m' ∧ m'.length = m.length := by
  obtain ⟨d1, m1, e1, h1, p1, r1, l1⟩ := p_one (ds := [.int 1, .int 1, .int 2, .int 3, .int 4]) hp (by omega) (by simp) (by simp)
  obtain ⟨sets, rfl, hs⟩ : ∃ i : Int, d1 = .int i ∧ 1 ≤ i ∧ i ≤ 4 := by simp at h1; rcases h1 with rfl | rfl | rfl | rfl <;> exact ⟨_, rfl, by decide, by decide⟩
  obtain ⟨d2, m2, e2, h2, p2, r2, l2⟩ := p_one (ds := [.int 1, .int 1, .int 2, .int 3]) p1 (by omega) (by simp) (by simp)
  obtain ⟨span, rfl, hsp⟩ : ∃ i : Int, d2 = .int i ∧ 1 ≤ i ∧ i ≤ 3 := by simp at h2; rcases h2 with rfl | rfl | rfl <;> exact ⟨_, rfl, by decide, by decide⟩
  obtain ⟨d3, m3, e3, h3, p3, r3, l3⟩ := p_one (ds := [.int 1, .int 1, .int 2, .int 3]) p2 (by omega) (by simp) (by simp)
  obtain ⟨many, rfl, hm⟩ : ∃ i : Int, d3 = .int i ∧ 1 ≤ i ∧ i ≤ 3 := by simp at h3; rcases h3 with rfl | rfl | rfl <;> exact ⟨_, rfl, by decide, by decide⟩
  obtain ⟨d4, m4, e4, h4, p4, r4, l4⟩ := p_one (ds := [.int 1, .int 1, .int 1, .int 2, .int 3]) p3 (by omega) (by simp) (by simp)
  obtain ⟨ts, rfl, ht⟩ : ∃ i : Int, d4 = .int i ∧ 1 ≤ i ∧ i ≤ 3 := by simp at h4; rcases h4 with rfl | rfl | rfl <;> exact ⟨_, rfl, by decide, by decide⟩
  obtain ⟨t5, m5, e5, t50, t51, p5, r5, l5⟩ := p_take (k := 5) p4 (by omega) (by decide) (by decide)
  obtain ⟨sm, hsm⟩ : ∃ i, sets * many = i := ⟨_, rfl⟩
  have hsm2 : 1 ≤ sm ∧ sm ≤ 12 := by
    have : sets = 1 ∨ sets = 2 ∨ sets = 3 ∨ sets = 4 := by omega
    rcases this with rfl | rfl | rfl | rfl <;> omega
  obtain ⟨d6, m6, e6, h6, p6, r6, l6⟩ := p_one (ds := [.int sm, .int sm, .int (1 + t5)]) p5 (by omega) (by simp) (by simp)
  obtain ⟨ls0, rfl, hls0⟩ : ∃ i : Int, d6 = .int i ∧ 1 ≤ i ∧ i ≤ 12 := by simp at h6; rcases h6 with rfl | rfl <;> exact ⟨_, rfl, by omega, by omega⟩
  obtain ⟨d7, m7, e7, h7, p7, r7, l7⟩ := p_one (ds := [.lst [.int sets, .int ls0], .lst [.int sets, .int ls0], .lst [.int (sets * size), .int (ls0 * size)]]) p6 (by omega) (by simp) (by simp)
  obtain ⟨us, ls, rfl, hus, hls⟩ : ∃ us ls : Int, d7 = .lst [.int us, .int ls] ∧ (1 ≤ us ∧ us ≤ 400000000000000000000) ∧ (1 ≤ ls ∧ ls ≤ 1200000000000000000000) := by
    simp at h7
    rcases h7 with rfl | rfl
    · exact ⟨_, _, rfl, by omega, by omega⟩
    · refine ⟨_, _, rfl, ?_, ?_⟩ <;> rcases hz with rfl | rfl <;> omega
  obtain ⟨d8, m8, e8, h8, p8, r8, l8⟩ := p_one (ds := [.int 1, .int 1, .int size]) p7 (by omega) (by simp) (by simp)
  obtain ⟨sc, rfl, hsc⟩ : ∃ i : Int, d8 = .int i ∧ (i = 1 ∨ i = 100000000000000000000) := by
    simp at h8
    rcases h8 with rfl | rfl
    · exact ⟨_, rfl, .inl rfl⟩
    · exact ⟨_, rfl, hz⟩
  obtain ⟨un, hun⟩ : ∃ i, span * sc = i := ⟨_, rfl⟩
  have hun2 : 1 ≤ un ∧ un ≤ 300000000000000000000 := by rcases hsc with rfl | rfl <;> omega
  obtain ⟨t9, m9, e9, t90, t91, p9, r9, l9⟩ := p_take (k := 5) p8 (by omega) (by decide) (by decide)
  obtain ⟨h, m10, e10, h10, p10, r10, l10⟩ := p_one (ds := [.str "misses", .str "misses", .str "moved", .tup [.str "each", .int 0], .tup [.str "each", .int 1], .tup [.str "each", .int (1 + t9)]]) p9 (by omega) (by simp) (by simp)
  have hh : Hears h := by
    simp at h10
    rcases h10 with rfl | rfl | rfl | rfl | rfl
    · exact .inl rfl
    · exact .inr (.inl rfl)
    · exact .inr (.inr ⟨0, rfl, by decide, by decide⟩)
    · exact .inr (.inr ⟨1, rfl, by decide, by decide⟩)
    · exact .inr (.inr ⟨_, rfl, by omega, by omega⟩)
  obtain ⟨t11, m11, e11, t110, t111, p11, r11, l11⟩ := p_take (k := 4) p10 (by omega) (by decide) (by decide)
  obtain ⟨t12, m12, e12, t120, t121, p12, r12, l12⟩ := p_take (k := 6) p11 (by omega) (by decide) (by decide)
  have x1 : ∀ m, evBin .Mult (.int sets) (.int many) m = .ok (.int sm) m := fun m => by rw [← hsm]; exact mul_l (by omega)
  have x2 : ∀ m, evBin .Mult (.int sets) (.int size) m = .ok (.int (sets * size)) m := fun m => mul_l (by omega)
  have x3 : ∀ m, evBin .Mult (.int ls0) (.int size) m = .ok (.int (ls0 * size)) m := fun m => mul_l (by omega)
  have x4 : ∀ m, evBin .Mult (.int span) (.int sc) m = .ok (.int un) m := fun m => by rw [← hun]; exact mul_l (by omega)
  have x5 : ∀ m, evBin .Mult (.int un) (.int ts) m = .ok (.int (un * ts)) m := fun m => mul_r (by omega)
  refine ⟨us, 1 + t11, un, ls, 1 + t12, un * ts, h, m12, ?_, ⟨⟨by omega, by omega⟩, ⟨by omega, by omega⟩, ⟨by omega, by omega⟩, ⟨by omega, by omega⟩, ⟨by omega, by omega⟩, ?_, Int.mul_emod_right _ _, hh⟩, ?_, ?_, by omega⟩
  · simp [F__law_duo_k74, runF, ps__law_duo_k74, N__law_duo_k74, s__law_duo_k74, exs, ex, ev, evs, asgn, asgns, seqOf, lstOfR, lstOf, e1, e2, e3, e4, e5, e6, e7, e8, e9, e10, e11, e12, x1, x2, x3, x4, x5, mine]
  · have : ts = 1 ∨ ts = 2 ∨ ts = 3 := by omega
    rcases this with rfl | rfl | rfl <;> exact ⟨by omega, by omega⟩
  · obtain ⟨a, b, c, q1, q2, q3, q4, q5, q6⟩ := p12.ex
    exact ⟨a, b, c, q1, q2, q3, q4, q5, by omega⟩
  · exact ((((((((((r1.trans r2).trans r3).trans r4).trans r5).trans r6).trans r7).trans r8).trans r9).trans r10).trans r11).trans r12
end PQ
set_option Elab.async false
set_option linter.all false
set_option maxRecDepth 100000
set_option maxHeartbeats 8000000
namespace PQ
open PySem PySem.Spec L2 ME PG
def bodyP : List Sm := match s__law_purse with
  | _ :: .ite _ (.loop _ _ b :: _) _ :: _ => b
  | _ => []
theorem purse_step {sc : D} {k : Nat} (hk : k < 6) {y3 : Option D} {c v : Int} {m : Sto} :
    exs 100 bodyP [some sc, some (.int k), some (.int c), y3, some (.int v)] m = .ok .nx [some sc, some (.int k), some (.int ((c * 49031 + v * (k + 9)) % 2147483353)), y3, some (.int v)] m := by
  have x1 : ∀ m, evBin .Mult (.int c) (.int 49031) m = .ok (.int (c * 49031)) m := fun m => mul_r (by omega)
  have x2 : ∀ m, evBin .Mult (.int v) (.int (k + 9)) m = .ok (.int (v * (k + 9))) m := fun m => mul_r (by omega)
  have x3 : ∀ i m, evBin .Mod (.int i) (.int 2147483353) m = .ok (.int (i % 2147483353)) m := fun i m => mod_ok (by omega)
  simp [asgn, bodyP, s__law_purse, exs, ex, ev, evs, x1, x2, x3]
theorem purse_loop {sc : D} {k : Nat} (hk : k < 6) {y3 : Option D} : ∀ (l : List Int) (c : Int) (y4 : Option D) (m : Sto), ∃ (c' : Int) (z4 : Option D),
    forLoop (fun _ => true) (fun v d m => asgn (.name 4) v d m) (fun d m => exs 100 bodyP d m) (l.map D.int) [some sc, some (.int k), some (.int c), y3, y4] m = .ok .nx [some sc, some (.int k), some (.int c'), y3, z4] m
  | [], c, y4, m => ⟨c, y4, by simp [forLoop]⟩
  | v :: l, c, y4, m => by
    obtain ⟨c', z4, e⟩ := purse_loop (sc := sc) (y3 := y3) hk l ((c * 49031 + v * (k + 9)) % 2147483353) (some (.int v)) m
    have s1 := purse_step (sc := sc) (y3 := y3) (c := c) (v := v) (m := m) hk
    simp only [asgn] at e
    exact ⟨c', z4, by simp [forLoop, asgn, s1, e]⟩
theorem cut4 {ns : List Int} {m : Sto} : evSlc (.rol (ns.map D.int)) none (some 4) m = .ok (.lst ((cutG ns none (some 4)).map D.int)) m := by
  show Res.ok (D.lst (cutG (ns.map D.int) none (some 4))) m = _
  simp [cutG, List.map_take, List.map_drop]
theorem pw18 {m : Sto} : evBin .Pow (.int 10) (.int 18) m = .ok (.int 1000000000000000000) m := by kernel_rfl
theorem p_purse {ns : List Int} {k : Nat} (hk : k < 6) {m : Sto} : ∃ a b : Int, F__law_purse [.rol (ns.map D.int), .int k] m = .ok (.ref m.length) (m ++ [.lst [.int a, .int b, .int 0]]) ∧ 0 ≤ a ∧ a < 2147483323 ∧ 0 ≤ b := by
  have x3 : ∀ i m, evBin .Mod (.int i) (.int 2147483323) m = .ok (.int (i % 2147483323)) m := fun i m => mod_ok (by omega)
  have x4 : ∀ m, evBin .Mult (.int 4003) (.int k) m = .ok (.int (4003 * k)) m := fun m => mul_l (by omega)
  have fin : ∀ (c : Int), ∃ b : Int, 0 ≤ b ∧ b = (if c < 0 ∨ 1000000000000000000 ≤ c then (if c < 0 then -c else c) else 0) := fun c => ⟨_, by split <;> (try split) <;> omega, rfl⟩
  by_cases h : k < ns.length
  · have h' : (k : Int) < ns.length := by omega
    have i1 : ∀ m, evIdx (.rol (ns.map D.int)) (.int k) m = .ok (.int ns[k]) m := fun m => by
      rw [idx_rol, atN (d := .int ns[k]) (i := k) (by simp [h]) rfl]; rfl
    generalize ns[k] = c at *
    have nh : ¬ ((ns.length : Int) ≤ k) := by omega
    obtain ⟨b, b0, hb⟩ := fin c
    refine ⟨c % 2147483323, b, ?_, Int.emod_nonneg _ (by omega), Int.emod_lt_of_pos _ (by omega), b0⟩
    subst hb
    by_cases q1 : c < 0 <;> by_cases q2 : 1000000000000000000 ≤ c <;>
      simp [F__law_purse, runF, ps__law_purse, N__law_purse, s__law_purse, exs, ex, ev, evs, evOr, asgn, h', nh, i1, x3, pw18, q1, q2]
  · have h' : ¬ ((k : Int) < ns.length) := by omega
    have nh : ((ns.length : Int) ≤ k) := by omega
    obtain ⟨c, z4, e⟩ := purse_loop (sc := .rol (ns.map D.int)) (y3 := none) hk (cutG ns none (some 4)) (4003 * k + 67) none m
    obtain ⟨b, b0, hb⟩ := fin c
    refine ⟨c % 2147483323, b, ?_, Int.emod_nonneg _ (by omega), Int.emod_lt_of_pos _ (by omega), b0⟩
    subst hb
    simp only [asgn] at e
    have e5 : ∀ y, evIt (.lst (.slc (.var 0) .nil (.cons (.int 4) .nil))) [some (.rol (ns.map D.int)), some (.int k), some (.int y), none, none] m = .ok ⟨(cutG ns none (some 4)).map D.int, none⟩ m := fun y => by
      simp [ev, evs, evIt, itAny, itLst, toPart, cut4, lstOfR, lstOf]
    have e3 : ∀ d, d = (cutG ns none (some 4)).map D.int → forLoop (Itm.chk ⟨d, none⟩) (fun v d m => Res.ok (List.set d 4 (some v)) m) (fun d m => exs 100 bodyP d m) d [some (.rol (ns.map D.int)), some (.int k), some (.int (4003 * k + 67)), none, none] m = .ok .nx [some (.rol (ns.map D.int)), some (.int k), some (.int c), none, z4] m := fun d hd => by subst hd; exact e
    have e2 := e3 _ rfl
    have pe : s__law_purse = s__law_purse.take 1 ++ [.ite (.cmp .GtE (.var 1) (.bf .len (.cons (.var 0) .nil))) [Sm.loop (.name 4) (.lst (.slc (.var 0) .nil (.cons (.int 4) .nil))) bodyP] []] ++ s__law_purse.drop 2 := rfl
    by_cases q1 : c < 0 <;> by_cases q2 : 1000000000000000000 ≤ c <;>
      (unfold F__law_purse runF; rw [pe]; simp [ps__law_purse, N__law_purse, s__law_purse, exs, ex, e2, e5, ev, evs, evOr, asgn, h', nh, x3, x4, pw18, q1, q2])
end PQ
set_option Elab.async false
set_option linter.all false
set_option maxRecDepth 100000
set_option maxHeartbeats 8000000
namespace PQ
open PySem PySem.Spec L2 ME PG
theorem so_each : PyData.strOk "each" = true := by decide +kernel
theorem so_moved : PyData.strOk "moved" = true := by decide +kernel
theorem so_misses : PyData.strOk "misses" = true := by decide +kernel
def leastI (us uw un ls ln : Int) (h : D) : Int := if us ≠ 1 ∧ (un ≠ ln ∨ ls % us ≠ 0) then 0 else if uw = 1 then 1 else match h with
  | .tup [_, .int e] => if e = 0 then uw else 2 * uw + e - 2
  | .str x => if x = "misses" then 0 else uw
  | _ => 0
theorem hears_closed {h : D} (hh : Hears h) : h.closed = true := by
  rcases hh with rfl | rfl | ⟨e, rfl, _⟩ <;> simp [D.closed, D.closeds]
theorem in_each {e : Int} {m : Sto} : evCmp .In (.tup [.str "each", .int e]) (.lst [.str "moved", .tup [.str "each", .int 0]]) m = .ok (.bl (e == 0)) m := by
  have : (0 == e) = (e == 0) := by rw [Bool.eq_iff_iff, beq_iff_eq, beq_iff_eq]; exact ⟨Eq.symm, Eq.symm⟩
  simp [evCmp, memD, seqOf, lstOfR, lstOf, D.flat, okEq, D.lay, D.lays, D.dep, D.deps, D.eqv, D.eqvs, bRes, so_each, so_moved, this]
theorem in_moved {m : Sto} : evCmp .In (.str "moved") (.lst [.str "moved", .tup [.str "each", .int 0]]) m = .ok (.bl true) m := by kernel_rfl
theorem eq_each {e : Int} {m : Sto} : evCmp .Eq (.tup [.str "each", .int e]) (.str "misses") m = .ok (.bl false) m := by
  simp [evCmp, eqD, D.scal, D.flat, seen, lstOfR, lstOf, okEq, D.lay, D.lays, D.dep, D.deps, D.eqv, bRes, so_each, so_misses]
theorem p_least {us uw un ls lw ln : Int} {h : D} {m : Sto} (h1 : 1 ≤ us) (hh : Hears h) : F__law_least [mine us uw un ls lw ln h] m = .ok (.int (leastI us uw un ls ln h)) m := by
  have x1 : ∀ m, evBin .Mod (.int ls) (.int us) m = .ok (.int (ls % us)) m := fun m => mod_ok (by omega)
  have x2 : ∀ m, evBin .Mult (.int 2) (.int uw) m = .ok (.int (2 * uw)) m := fun m => mul_l (by omega)
  unfold leastI
  have sn : ¬ (Str.ofString "moved" = Str.ofString "misses") := by decide +kernel
  rcases hh with rfl | rfl | ⟨e, rfl, _⟩
  · by_cases c1 : us = 1 <;> by_cases c4 : un = ln <;> by_cases c5 : ls % us = 0 <;> by_cases c2 : uw = 1 <;>
      simp [F__law_least, runF, ps__law_least, N__law_least, s__law_least, exs, ex, ev, evs, evAnd, evOr, asgn, asgns, seqOf, mine, at0, at1, at2, c1, c2, c4, c5, x1]
  · by_cases c1 : us = 1 <;> by_cases c4 : un = ln <;> by_cases c5 : ls % us = 0 <;> by_cases c2 : uw = 1 <;>
      simp [F__law_least, runF, ps__law_least, N__law_least, s__law_least, exs, ex, ev, evs, evAnd, evOr, asgn, asgns, seqOf, mine, at0, at1, at2, c1, c2, c4, c5, x1, in_moved, sn]
  · by_cases c3 : e = 0 <;> by_cases c1 : us = 1 <;> by_cases c4 : un = ln <;> by_cases c5 : ls % us = 0 <;> by_cases c2 : uw = 1 <;>
      simp [F__law_least, runF, ps__law_least, N__law_least, s__law_least, exs, ex, ev, evs, evAnd, evOr, asgn, asgns, seqOf, mine, at0, at1, at2, c1, c2, c3, c4, c5, x1, x2, in_each, eq_each]
theorem pure_ok {F : Fn} {ds : List D} {d : D} {m m1 : Sto} (hc : D.closeds ds = true) (h : F ds [] = .ok d m1) (hd : d.closed = true) : pureF F ds m = .ok d m := by
  have e : frz m1 12 d = some d := by
    show (if d.closed = true then some d else _) = _
    rw [if_pos hd]
  unfold pureF
  rw [if_pos hc, h]
  simp only [e]
theorem mine_closed {us uw un ls lw ln : Int} {h : D} (hh : Hears h) : D.closeds [mine us uw un ls lw ln h] = true := by
  simp [mine, D.closeds, D.closed, hears_closed hh]
theorem pp_least {us uw un ls lw ln : Int} {h : D} {m : Sto} (h1 : 1 ≤ us) (hh : Hears h) : pureF F__law_least [mine us uw un ls lw ln h] m = .ok (.int (leastI us uw un ls ln h)) m :=
  pure_ok (mine_closed hh) (p_least h1 hh) rfl
theorem pw9 {m : Sto} : evBin .Pow (.int 10) (.int 9) m = .ok (.int 1000000000) m := by kernel_rfl
theorem pw28 {m : Sto} : evBin .Pow (.int 10) (.int 28) m = .ok (.int 10000000000000000000000000000) m := by kernel_rfl
theorem pw20 {m : Sto} : evBin .Pow (.int 10) (.int 20) m = .ok (.int 100000000000000000000) m := by kernel_rfl
theorem pw30 {m : Sto} : evBin .Pow (.int 10) (.int 30) m = .ok (.int 1000000000000000000000000000000) m := by kernel_rfl
theorem rg3 : rangeD 0 3 = [.int 0, .int 1, .int 2] := rfl
theorem least_le {us uw un ls ln : Int} {h : D} (h1 : Num uw) (hh : Hears h) : -10 ≤ leastI us uw un ls ln h ∧ leastI us uw un ls ln h ≤ 3000000000000000000000000000000 := by
  unfold leastI
  obtain ⟨q1, q2⟩ := h1
  split
  · omega
  · split
    · omega
    · rcases hh with rfl | rfl | ⟨e, rfl, e1, e2⟩
      · dsimp only; split <;> omega
      · dsimp only; split <;> omega
      · dsimp only; split <;> omega
end PQ
set_option Elab.async false
set_option linter.all false
set_option maxRecDepth 100000
set_option maxHeartbeats 8000000
namespace PQ
open PySem PySem.Spec L2 ME PG
theorem lc_map {chk : Sto → Bool} {ft : D → Sto → Res ME.Env} {fb : ME.Env → Sto → Res Bool} {fe : ME.Env → Sto → Res D} (g : D → D) {m : Sto} (hc : chk m = true) :
    ∀ (l acc : List D), (∀ d ∈ l, ∃ e, ft d m = .ok e m ∧ fb e m = .ok true m ∧ fe e m = .ok (g d) m) → acc.length + l.length ≤ 1000000 →
      lcLoop chk ft fb fe l acc m = .ok (.lst (acc ++ l.map g)) m
  | [], acc, _, _ => by simp [lcLoop, hc]
  | d :: l, acc, h, hl => by
    obtain ⟨e, e1, e2, e3⟩ := h d (by simp)
    have : acc.length < 1000000 := by simp at hl; omega
    have ih := lc_map g hc l (acc ++ [g d]) (fun d' hd => h d' (by simp [hd])) (by simp at hl ⊢; omega)
    simp [lcLoop, hc, e1, e2, e3, this, Res.nox, Res.bind, ih]
/-- a number's text -/
def sn (i : Int) : Str := Str.ofString (toString i)
theorem sn_tl {i : Int} (h : 0 ≤ i) : TL.tl (sn i) = TL.numL i.toNat := by
  obtain ⟨n, rfl⟩ := Int.eq_ofNat_of_zero_le h
  exact TL.tl_num n
theorem sn_len {i : Int} (h : 0 ≤ i) (h2 : i ≤ 1000000000000000000000000000000) : (sn i).length ≤ 31 := by
  rw [TL.len_tl, sn_tl h]
  exact TL.numL_len (by decide) (by
    have : (1000000000000000000000000000000 : Int) < 10 ^ 31 := by decide +kernel
    omega)
theorem sn_ne {i : Int} (h : 0 ≤ i) : ¬ (sn i = Str.ofString "") := fun e => by
  have := congrArg TL.tl e
  rw [sn_tl h] at this
  exact TL.numL_ne _ (by rw [this]; rfl)
theorem sn_int {i : Int} {m : Sto} (h : 0 ≤ i) (h2 : i ≤ 1000000000000000000000000000000) : evBf .int [.str (sn i)] m = .ok (.int i) m := by
  have hl := sn_len h h2
  show (if (sn i).length ≤ 640 then (match PySem.intText? (sn i) with
    | some n => Res.ok (D.int n) m
    | none => .stuck) else .stuck) = _
  rw [if_pos (by omega)]
  obtain ⟨n, rfl⟩ := Int.eq_ofNat_of_zero_le h
  have : PySem.intText? (sn ((n : Nat) : Int)) = some (n : Int) := TL.int_num (by
    rw [TL.len_tl, sn_tl h] at hl
    simp at hl
    omega)
  rw [this]
theorem sn_str {i : Int} {m : Sto} (h : 0 ≤ i) (h2 : i ≤ 1000000000000000000000000000000) : evBf .str [.int i] m = .ok (.str (sn i)) m := by
  show (if i.natAbs.log2 < 1920 then Res.ok (D.str (toString i)) m else .stuck) = _
  rw [if_pos]
  · rfl
  · by_cases c : i = 0
    · subst c; decide
    · have h4 : i.natAbs ≠ 0 := by omega
      exact (Nat.log2_lt h4).mpr (Nat.lt_of_lt_of_le (m := 2 ^ 100) (by
        have : (1000000000000000000000000000000 : Int) < 2 ^ 100 := by decide +kernel
        omega) (Nat.pow_le_pow_right (by decide) (by decide)))
theorem all_bl {l : List D} {m : Sto} : evBf .all [.lst (l.map fun _ => D.bl true)] m = .ok (.bl true) m := by
  have : asBls (l.map fun _ => D.bl true) = some (l.map fun _ => true) := by
    induction l with
    | nil => rfl
    | cons a l ih => simp [asBls, ih]
  show (match (lstOfR m (.lst (l.map fun _ => D.bl true))).bind asBls with
    | some bs => Res.ok (D.bl (bs.all id)) m
    | none => .stuck) = _
  show (match asBls (l.map fun _ => D.bl true) with
    | some bs => Res.ok (D.bl (bs.all id)) m
    | none => .stuck) = _
  rw [this]
  simp
theorem p_read_number {i : Int} {m : Sto} (h : 0 ≤ i) (h2 : i ≤ 1000000000000000000000000000000) : F_read_number [.str (sn i)] m = .ok (.int i) m := by
  have hl := sn_len h h2
  have hne := sn_ne h
  have e1 : ∀ m, evBf .int [.str (sn i)] m = .ok (.int i) m := fun m => sn_int h h2
  have e2 : ∀ m, evBf .str [.int i] m = .ok (.str (sn i)) m := fun m => sn_str h h2
  have e3 : ∀ m, ev (.lc (.cmp .In (.var 2) (.glo "DIGITS" (.str "0123456789"))) (.name 2) (.lst (.var 0)) .nil [("sign", 2)]) [some (.str (sn i)), none, none] m = .ok (.lst ((TL.tl (sn i)).map fun _ => D.bl true)) m := fun m => by
    have := lc_map (chk := Itm.chk ⟨(sn i).cps.toList.map fun c => D.str ⟨#[c]⟩, none⟩) (ft := fun v m => asgn (.name 2) v (wipeE [some (.str (sn i)), none, none] [2]) m) (fb := fun e m => evIfs .nil e m) (fe := fun e m => ev (.cmp .In (.var 2) (.glo "DIGITS" (.str "0123456789"))) e m) (fun _ => .bl true) (m := m) rfl ((TL.tl (sn i)).map fun c => D.str ⟨#[c]⟩) [] (fun d hd => by
      obtain ⟨c, hc, rfl⟩ := List.mem_map.mp hd
      refine ⟨_, rfl, rfl, ?_⟩
      rw [sn_tl h] at hc
      have hr := TL.numL_digits _ c hc
      have hr2 : 48 ≤ c ∧ c ≤ 57 := by
        have := hr
        omega
      have : c = 48 ∨ c = 49 ∨ c = 50 ∨ c = 51 ∨ c = 52 ∨ c = 53 ∨ c = 54 ∨ c = 55 ∨ c = 56 ∨ c = 57 := by omega
      rcases this with rfl | rfl | rfl | rfl | rfl | rfl | rfl | rfl | rfl | rfl <;> kernel_rfl) (by have := TL.len_tl (sn i); simp only [List.length_map, List.length_nil]; omega)
    simp only [List.map_map, List.nil_append] at this
    exact this
  have e4 : ∀ m, evBf .all [.lst ((TL.tl (sn i)).map fun _ => D.bl true)] m = .ok (.bl true) m := fun m => by
    have := all_bl (l := (TL.tl (sn i)).map fun _ => D.non) (m := m)
    simpa [Function.comp_def] using this
  have c1 : ((sn i) == Str.ofString "") = false := by simpa using hne
  have c2 : ¬ (80 : Int) < (sn i).length := by omega
  have c3 : (sn i).length ≤ 16777216 := by omega
  simp [-str_int, F_read_number, runF, ps_read_number, N_read_number, s_read_number, exs, ex, ↓e3, e4, e1, e2, ev, evs, evOr, asgn, c1, c2, c3, hne]
def wd : D → List Str
  | .str x => [x]
  | .tup [_, .int e] => ["each", sn e]
  | _ => []
def wds (us uw un ls lw ln : Int) (h : D) : List Str := Str.ofString "upper" :: sn us :: sn uw :: sn un :: "lower" :: sn ls :: sn lw :: sn ln :: "hears" :: wd h
def line (us uw un ls lw ln : Int) (h : D) : Str := Txt.join " " (wds us uw un ls lw ln h)
section
variable {a b c d e f : D} {m : Sto} {l : List D}
theorem slc_a : evSlc (.lst [a, b, c, d, e, f]) none (some 3) m = .ok (.lst [a, b, c]) m := by kernel_rfl
theorem slc_b : evSlc (.lst [a, b, c, d, e, f]) (some 3) none m = .ok (.lst [d, e, f]) m := by kernel_rfl
end
theorem len_lits : (Str.ofString "upper").length = 5 ∧ (Str.ofString "lower").length = 5 ∧ (Str.ofString "hears").length = 5 ∧ (Str.ofString "misses").length = 6 ∧ (Str.ofString "moved").length = 5 ∧ (Str.ofString "each ").length = 5 ∧ (Str.ofString " ").length = 1 ∧ (Str.ofString "each").length = 4 := by decide +kernel
theorem join_each {a0 a1 a2 a3 a4 a5 a6 a7 a8 b : Str} : Txt.join " " [a0, a1, a2, a3, a4, a5, a6, a7, a8, Str.ofString "each " ++ b] = Txt.join " " [a0, a1, a2, a3, a4, a5, a6, a7, a8, "each", b] := by
  apply TL.ext_tl
  rw [TL.join_eq, TL.join_eq, TL.tl_join, TL.tl_join]
  have e1 : TL.tl (Str.ofString "each ") = TL.tl (Str.ofString "each") ++ TL.tl (Str.ofString " ") := by decide +kernel
  simp [TL.joinL, TL.tl_append, e1]
theorem join_ok {l : List Str} {m : Sto} (h : (l.map Str.length).sum + l.length * 1 ≤ 16777216) : evBm .join (.str " ") [.lst (l.map D.str)] m = .ok (.str (Txt.join " " l)) m := by
  have e1 : ∀ l : List Str, asStrs (l.map D.str) = some l := by
    intro l
    induction l with
    | nil => rfl
    | cons a l ih => simp [asStrs, ih]
  show (match (seqOf m (.lst (l.map D.str))).bind asStrs with
    | some ys => if (ys.map Str.length).sum + ys.length * (Str.ofString " ").length ≤ 16777216 then Res.ok (D.str (Txt.join " " ys)) m else .stuck
    | none => .stuck) = _
  show (match asStrs (l.map D.str) with
    | some ys => if (ys.map Str.length).sum + ys.length * (Str.ofString " ").length ≤ 16777216 then Res.ok (D.str (Txt.join " " ys)) m else .stuck
    | none => .stuck) = _
  rw [e1]
  show (if (l.map Str.length).sum + l.length * (Str.ofString " ").length ≤ 16777216 then _ else _) = _
  rw [if_pos]
  obtain ⟨_, _, _, _, _, _, q, _⟩ := len_lits
  rw [q]; exact h
theorem p_text {us uw un ls lw ln : Int} {h : D} {m : Sto} (hm : Mi us uw un ls lw ln h) : F__law_text_k84 [mine us uw un ls lw ln h] m = .ok (.str (line us uw un ls lw ln h)) m := by
  obtain ⟨⟨a0, a1⟩, ⟨b0, b1⟩, ⟨c0, c1⟩, ⟨d0, d1⟩, ⟨e0, e1⟩, ⟨f0, f1⟩, _, hh⟩ := hm
  have y1 : ∀ m, evBf .str [.int us] m = .ok (.str (sn us)) m := fun m => sn_str (by omega) a1
  have y2 : ∀ m, evBf .str [.int uw] m = .ok (.str (sn uw)) m := fun m => sn_str (by omega) b1
  have y3 : ∀ m, evBf .str [.int un] m = .ok (.str (sn un)) m := fun m => sn_str (by omega) c1
  have y4 : ∀ m, evBf .str [.int ls] m = .ok (.str (sn ls)) m := fun m => sn_str (by omega) d1
  have y5 : ∀ m, evBf .str [.int lw] m = .ok (.str (sn lw)) m := fun m => sn_str (by omega) e1
  have y6 : ∀ m, evBf .str [.int ln] m = .ok (.str (sn ln)) m := fun m => sn_str (by omega) f1
  have z1 := sn_len (i := us) (by omega) a1
  have z2 := sn_len (i := uw) (by omega) b1
  have z3 := sn_len (i := un) (by omega) c1
  have z4 := sn_len (i := ls) (by omega) d1
  have z5 := sn_len (i := lw) (by omega) e1
  have z6 := sn_len (i := ln) (by omega) f1
  obtain ⟨q1, q2, q3, q4, q5, q6, q7, q8⟩ := len_lits
  rcases hh with rfl | rfl | ⟨e, rfl, g0, g1⟩
  · have j : ∀ m, evBm .join (.str " ") [.lst [.str "upper", .str (sn us), .str (sn uw), .str (sn un), .str "lower", .str (sn ls), .str (sn lw), .str (sn ln), .str "hears", .str "misses"]] m = .ok (.str (line us uw un ls lw ln (.str "misses"))) m := fun m => join_ok (l := wds us uw un ls lw ln (.str "misses")) (by simp [wds, wd, q1, q2, q3, q4]; omega)
    simp [-str_int, F__law_text_k84, runF, ps__law_text_k84, N__law_text_k84, s__law_text_k84, exs, ex, ev, evs, evIt, evIfs, itAny, itLst, lcLoop, Itm.chk, wipeE, asgn, asgns, toPart, bmTy, Bm.ty, tyOf, evIsi, bRes, kit_str_str, kit_tuple_str, mine, at0, at1, at2, y1, y2, y3, y4, y5, y6, slc_a, slc_b, j]
  · have j : ∀ m, evBm .join (.str " ") [.lst [.str "upper", .str (sn us), .str (sn uw), .str (sn un), .str "lower", .str (sn ls), .str (sn lw), .str (sn ln), .str "hears", .str "moved"]] m = .ok (.str (line us uw un ls lw ln (.str "moved"))) m := fun m => join_ok (l := wds us uw un ls lw ln (.str "moved")) (by simp [wds, wd, q1, q2, q3, q5]; omega)
    simp [-str_int, F__law_text_k84, runF, ps__law_text_k84, N__law_text_k84, s__law_text_k84, exs, ex, ev, evs, evIt, evIfs, itAny, itLst, lcLoop, Itm.chk, wipeE, asgn, asgns, toPart, bmTy, Bm.ty, tyOf, evIsi, bRes, kit_str_str, kit_tuple_str, mine, at0, at1, at2, y1, y2, y3, y4, y5, y6, slc_a, slc_b, j]
  · have z7 := sn_len (i := e) g0 g1
    have y7 : ∀ m, evBf .str [.int e] m = .ok (.str (sn e)) m := fun m => sn_str g0 g1
    have k : (Str.ofString "each ").length + (sn e).length ≤ 16777216 := by omega
    have kl : (Str.ofString "each " ++ sn e).length ≤ 40 := by
      rw [TL.len_tl, TL.tl_append, List.length_append, ← TL.len_tl, ← TL.len_tl]; omega
    have j : ∀ m, evBm .join (.str " ") [.lst [.str "upper", .str (sn us), .str (sn uw), .str (sn un), .str "lower", .str (sn ls), .str (sn lw), .str (sn ln), .str "hears", .str (Str.ofString "each " ++ sn e)]] m = .ok (.str (line us uw un ls lw ln (.tup [.str "each", .int e]))) m := fun m => by
      have := join_ok (l := [Str.ofString "upper", sn us, sn uw, sn un, "lower", sn ls, sn lw, sn ln, "hears", Str.ofString "each " ++ sn e]) (m := m) (by simp [q1, q2, q3]; omega)
      rw [join_each] at this
      exact this
    simp [-str_int, F__law_text_k84, runF, ps__law_text_k84, N__law_text_k84, s__law_text_k84, exs, ex, ev, evs, evIt, evIfs, itAny, itLst, lcLoop, Itm.chk, wipeE, asgn, asgns, toPart, bmTy, Bm.ty, tyOf, evIsi, bRes, kit_str_str, kit_tuple_str, mine, at0, at1, at2, y1, y2, y3, y4, y5, y6, y7, k, slc_a, slc_b, j]
end PQ
set_option Elab.async false
set_option linter.all false
set_option maxRecDepth 100000
set_option maxHeartbeats 8000000
namespace PQ
open PySem PySem.Spec L2 ME PG
section
variable {i lo hi a b c e : Int} {m : Sto}
theorem p_is_integer : pureF F_is_integer [.int i] m = .ok (.bl true) m := pure_ok rfl (by
  simp [F_is_integer, runF, ps_is_integer, N_is_integer, s_is_integer, exs, ex, ev, evs, evAnd, evIsi, tyOf, bRes, kit_int_int, kit_int_bool]
  rfl) rfl
theorem p_within (h : lo ≤ i) (h2 : i ≤ hi) : pureF F_is_within [.int i, .int lo, .int hi] m = .ok (.bl true) m := pure_ok rfl (by
  simp [F_is_within, runF, ps_is_within, N_is_within, s_is_within, exs, ex, ev, evs, evAnd, p_is_integer, h, h2]
  rfl) rfl
theorem ne_tt0 : evCmp .NotEq (.tup []) (.tup []) m = .ok (.bl false) m := by kernel_rfl
theorem p_wrong (h : Num a) (h2 : Num b) (h3 : Num c) : pureF F_wrong_number [.tup [.int a, .int b, .int c]] m = .ok (.tup []) m := pure_ok rfl (by
  have y1 : ∀ m, pureF F_is_within [.int a, .int 1, .int 1000000000000000000000000000000] m = .ok (.bl true) m := fun m => p_within h.1 h.2
  have y2 : ∀ m, pureF F_is_within [.int b, .int 1, .int 1000000000000000000000000000000] m = .ok (.bl true) m := fun m => p_within h2.1 h2.2
  have y3 : ∀ m, pureF F_is_within [.int c, .int 1, .int 1000000000000000000000000000000] m = .ok (.bl true) m := fun m => p_within h3.1 h3.2
  simp [F_wrong_number, runF, ps_wrong_number, N_wrong_number, s_wrong_number, exs, ex, ev, evs, evOr, evIt, itEnum, forLoop, Itm.chk, asgn, asgns, seqOf, evIsi, tyOf, bRes, kit_tuple_tuple, y1, y2, y3]
  rfl) rfl
theorem in_mi : evCmp .In (.str "misses") (.tup [.str "misses", .str "moved"]) m = .ok (.bl true) m := by kernel_rfl
theorem in_mo : evCmp .In (.str "moved") (.tup [.str "misses", .str "moved"]) m = .ok (.bl true) m := by kernel_rfl
theorem rh_mi : pureF F_read_hears [.lst [.str "misses"]] m = .ok (.str "misses") m := pure_ok (m1 := []) rfl (by kernel_rfl) rfl
theorem rh_mo : pureF F_read_hears [.lst [.str "moved"]] m = .ok (.str "moved") m := pure_ok (m1 := []) rfl (by kernel_rfl) rfl
theorem pp_read_number (h : 0 ≤ i) (h2 : i ≤ 1000000000000000000000000000000) : pureF F_read_number [.str (sn i)] m = .ok (.int i) m := pure_ok rfl (p_read_number h h2) rfl
theorem rh_ea (h : 0 ≤ e) (h2 : e ≤ 1000000000000000000000000000000) : pureF F_read_hears [.lst [.str "each", .str (sn e)]] m = .ok (.tup [.str "each", .int e]) m := pure_ok rfl (by
  have y1 : ∀ m, pureF F_read_number [.str (sn e)] m = .ok (.int e) m := fun m => pp_read_number h h2
  have y2 : ¬ (1000000000000000000000000000000 < e) := by omega
  simp [F_read_hears, runF, ps_read_hears, N_read_hears, s_read_hears, exs, ex, ev, evs, evOr, evAnd, asgn, at0, at1, y1, y2]
  rfl) rfl
theorem p_is_hears {h : D} (hh : Hears h) : pureF F_is_hears [h] m = .ok (.bl true) m := pure_ok (by simp [D.closeds, hears_closed hh]) (by
  rcases hh with rfl | rfl | ⟨e, rfl, g0, g1⟩
  · have : ∀ m, F_is_hears [.str "misses"] m = .ok (.bl true) m := fun m => by kernel_rfl
    exact this _
  · have : ∀ m, F_is_hears [.str "moved"] m = .ok (.bl true) m := fun m => by kernel_rfl
    exact this _
  · have y1 : ∀ m, pureF F_is_within [.int e, .int 0, .int 1000000000000000000000000000000] m = .ok (.bl true) m := fun m => p_within g0 g1
    simp [F_is_hears, runF, ps_is_hears, N_is_hears, s_is_hears, exs, ex, ev, evs, evAnd, at0, at1, evIsi, tyOf, bRes, kit_tuple_tuple, y1]) rfl
end
section
variable {a b c d e f a0 a1 a2 a3 a4 a5 a6 a7 a8 a9 a10 a11 : D} {m : Sto} {l : List D}
theorem slc_1 : evSlc (.lst [a0, a1, a2, a3, a4, a5, a6, a7, a8, a9]) (some 1) (some 4) m = .ok (.lst [a1, a2, a3]) m := by kernel_rfl
theorem slc_2 : evSlc (.lst [a0, a1, a2, a3, a4, a5, a6, a7, a8, a9]) (some 5) (some 8) m = .ok (.lst [a5, a6, a7]) m := by kernel_rfl
theorem slc_3 : evSlc (.lst [a0, a1, a2, a3, a4, a5, a6, a7, a8, a9]) (some 9) none m = .ok (.lst [a9]) m := by kernel_rfl
theorem slc_4 : evSlc (.lst [a0, a1, a2, a3, a4, a5, a6, a7, a8, a9, a10]) (some 1) (some 4) m = .ok (.lst [a1, a2, a3]) m := by kernel_rfl
theorem slc_5 : evSlc (.lst [a0, a1, a2, a3, a4, a5, a6, a7, a8, a9, a10]) (some 5) (some 8) m = .ok (.lst [a5, a6, a7]) m := by kernel_rfl
theorem slc_6 : evSlc (.lst [a0, a1, a2, a3, a4, a5, a6, a7, a8, a9, a10]) (some 9) none m = .ok (.lst [a9, a10]) m := by kernel_rfl
theorem slc_7 : evSlc (.lst [a0, a1, a2, a3, a4, a5, a6, a7, a8, a9, a10, a11]) (some 1) (some 4) m = .ok (.lst [a1, a2, a3]) m := by kernel_rfl
theorem slc_8 : evSlc (.lst [a0, a1, a2, a3, a4, a5, a6, a7, a8, a9, a10, a11]) (some 5) (some 8) m = .ok (.lst [a5, a6, a7]) m := by kernel_rfl
theorem slc_9 : evSlc (.lst [a0, a1, a2, a3, a4, a5, a6, a7, a8, a9, a10, a11]) (some 9) none m = .ok (.lst [a9, a10, a11]) m := by kernel_rfl
theorem i8 : atI (a0 :: a1 :: a2 :: a3 :: a4 :: a5 :: a6 :: a7 :: a8 :: l) 8 = some a8 := atN (i := 8) rfl rfl
theorem i4 : atI (a0 :: a1 :: a2 :: a3 :: a4 :: l) 4 = some a4 := atN (i := 4) rfl rfl
theorem ne_3 : evCmp .NotEq (.lst [.str "upper", .str "lower", .str "hears"]) (.lst [.str "upper", .str "lower", .str "hears"]) m = .ok (.bl false) m := by kernel_rfl
end
theorem free_lits : (32 ∉ TL.tl (Str.ofString "upper")) ∧ (32 ∉ TL.tl (Str.ofString "lower")) ∧ (32 ∉ TL.tl (Str.ofString "hears")) ∧ (32 ∉ TL.tl (Str.ofString "misses")) ∧ (32 ∉ TL.tl (Str.ofString "moved")) ∧ (32 ∉ TL.tl (Str.ofString "each")) := by decide +kernel
theorem sn_free {i : Int} (h : 0 ≤ i) : 32 ∉ TL.tl (sn i) := by rw [sn_tl h]; exact TL.numL_free (.inl (by decide))
theorem wds_free {us uw un ls lw ln : Int} {h : D} (hm : Mi us uw un ls lw ln h) : ∀ p ∈ wds us uw un ls lw ln h, 32 ∉ TL.tl p := by
  obtain ⟨⟨a0, a1⟩, ⟨b0, b1⟩, ⟨c0, c1⟩, ⟨d0, d1⟩, ⟨e0, e1⟩, ⟨f0, f1⟩, _, hh⟩ := hm
  obtain ⟨q1, q2, q3, q4, q5, q6⟩ := free_lits
  have z1 := sn_free (i := us) (by omega)
  have z2 := sn_free (i := uw) (by omega)
  have z3 := sn_free (i := un) (by omega)
  have z4 := sn_free (i := ls) (by omega)
  have z5 := sn_free (i := lw) (by omega)
  have z6 := sn_free (i := ln) (by omega)
  rcases hh with rfl | rfl | ⟨e, rfl, g0, g1⟩
  · simp only [wds, wd, List.forall_mem_cons]
    exact ⟨q1, z1, z2, z3, q2, z4, z5, z6, q3, q4, by simp⟩
  · simp only [wds, wd, List.forall_mem_cons]
    exact ⟨q1, z1, z2, z3, q2, z4, z5, z6, q3, q5, by simp⟩
  · simp only [wds, wd, List.forall_mem_cons]
    exact ⟨q1, z1, z2, z3, q2, z4, z5, z6, q3, q6, sn_free g0, by simp⟩
theorem split_words {l : List Str} (h : l ≠ []) (hf : ∀ p ∈ l, 32 ∉ TL.tl p) : Txt.split (Txt.join " " l) " " = l :=
  TL.split_join (s := 32) (S := []) (by decide +kernel) (by decide +kernel) h hf
theorem joinL_len : ∀ l : List (List Nat), (TL.joinL [32] l).length ≤ (l.map (fun x => x.length + 1)).sum
  | [] => by simp [TL.joinL]
  | [a] => by simp [TL.joinL]
  | a :: b :: l => by
    have := joinL_len (b :: l)
    simp [TL.joinL] at this ⊢
    omega
theorem join_len (l : List Str) : (Txt.join " " l).length ≤ (l.map (fun x => x.length + 1)).sum := by
  rw [TL.len_tl, TL.join_eq, TL.tl_join, show TL.tl (Str.ofString " ") = [32] by decide +kernel]
  refine Nat.le_trans (joinL_len _) (Nat.le_of_eq ?_)
  rw [List.map_map]
  congr 1
theorem line_len {us uw un ls lw ln : Int} {h : D} (hm : Mi us uw un ls lw ln h) : (line us uw un ls lw ln h).length ≤ 500 := by
  obtain ⟨⟨a0, a1⟩, ⟨b0, b1⟩, ⟨c0, c1⟩, ⟨d0, d1⟩, ⟨e0, e1⟩, ⟨f0, f1⟩, _, hh⟩ := hm
  have z1 := sn_len (i := us) (by omega) a1
  have z2 := sn_len (i := uw) (by omega) b1
  have z3 := sn_len (i := un) (by omega) c1
  have z4 := sn_len (i := ls) (by omega) d1
  have z5 := sn_len (i := lw) (by omega) e1
  have z6 := sn_len (i := ln) (by omega) f1
  obtain ⟨q1, q2, q3, q4, q5, q6, q7, q8⟩ := len_lits
  refine Nat.le_trans (join_len _) ?_
  rcases hh with rfl | rfl | ⟨e, rfl, g0, g1⟩
  · simp [wds, wd, q1, q2, q3, q4]; omega
  · simp [wds, wd, q1, q2, q3, q5]; omega
  · have z7 := sn_len (i := e) g0 g1
    simp [wds, wd, q1, q2, q3, q8]; omega
theorem bm_split' {l : List Str} {x : Str} {m : Sto} (h : x.length + 2 ≤ 16777216) (e : Txt.split x " " = l) : evBm .split (.str x) [.str " "] m = .ok (.lst (l.map D.str)) m := by
  show (if ((Str.ofString " ").length == 0) = false ∧ x.length + 2 ≤ 16777216 then Res.ok (D.lst ((Txt.split x " ").map D.str)) m else .stuck) = _
  rw [if_pos ⟨by decide +kernel, h⟩, e]
end PQ
set_option Elab.async false
set_option linter.all false
set_option maxRecDepth 100000
set_option maxHeartbeats 4000000
namespace PQ
open PySem PySem.Spec L2 ME PG
/-! ### numbers in words of any text -/
abbrev T30 : Int := 1000000000000000000000000000000
def isD (w : Str) : Bool := (TL.tl w).all fun c => decide (48 ≤ c ∧ c ≤ 57)
theorem isD_iff {w : Str} : isD w = true ↔ NumText.AllDigits (TL.tl w) := by
  unfold isD NumText.AllDigits; simp only [List.all_eq_true, decide_eq_true_eq]
theorem foldl_lt : ∀ (cs : List Nat) (a : Nat), NumText.AllDigits cs → cs.foldl (fun acc c => acc * 10 + (c - 48)) a < (a + 1) * 10 ^ cs.length
  | [], a, _ => by simp
  | c :: cs, a, h => by
    have ih := foldl_lt cs (a * 10 + (c - 48)) h.tail
    have hc := h.head
    simp only [List.foldl_cons, List.length_cons]
    refine Nat.lt_of_lt_of_le ih ?_
    rw [Nat.pow_succ, Nat.mul_comm (10 ^ cs.length) 10, ← Nat.mul_assoc]
    exact Nat.mul_le_mul_right _ (by omega)
theorem val_lt {cs : List Nat} (h : NumText.AllDigits cs) : NumText.digitsVal cs < 10 ^ cs.length := by
  have := foldl_lt cs 0 h
  rw [Nat.zero_add, Nat.one_mul] at this; exact this
theorem val_num {cs : List Nat} (h : NumText.AllDigits cs) : TL.numL (NumText.digitsVal cs) = (match cs.dropWhile (· == 48) with
    | [] => [48]
    | c :: r => c :: r) := by
  unfold TL.numL
  rw [NumText.toDigits_all cs h]
  cases e : cs.dropWhile (· == 48) with
  | nil => rfl
  | cons c r =>
    have h2 : NumText.AllDigits (c :: r) := fun d hd => h d ((List.dropWhile_sublist _).mem (by rw [e]; exact hd))
    show ((c :: r).map Char.ofNat).map Char.toNat = c :: r
    rw [List.map_map]
    conv => rhs; rw [← List.map_id (c :: r)]
    apply List.map_congr_left
    intro d hd
    have := h2 d hd
    show (Char.ofNat d).toNat = d
    have : d = 48 ∨ d = 49 ∨ d = 50 ∨ d = 51 ∨ d = 52 ∨ d = 53 ∨ d = 54 ∨ d = 55 ∨ d = 56 ∨ d = 57 := by omega
    rcases this with rfl | rfl | rfl | rfl | rfl | rfl | rfl | rfl | rfl | rfl <;> rfl
theorem lc_map2 {α : Type} {chk : Sto → Bool} {ft : D → Sto → Res ME.Env} {fb : ME.Env → Sto → Res Bool} {fe : ME.Env → Sto → Res D} (i g : α → D) {m : Sto} (hc : chk m = true) :
    ∀ (l : List α) (acc : List D), (∀ d ∈ l, ∃ e, ft (i d) m = .ok e m ∧ fb e m = .ok true m ∧ fe e m = .ok (g d) m) → acc.length + l.length ≤ 1000000 →
      lcLoop chk ft fb fe (l.map i) acc m = .ok (.lst (acc ++ l.map g)) m
  | [], acc, _, _ => by simp [lcLoop, hc]
  | d :: l, acc, h, hl => by
    obtain ⟨e, e1, e2, e3⟩ := h d (by simp)
    have : acc.length < 1000000 := by simp at hl; omega
    have ih := lc_map2 i g hc l (acc ++ [g d]) (fun d' hd => h d' (by simp [hd])) (by simp at hl ⊢; omega)
    simp [lcLoop, hc, e1, e2, e3, this, Res.nox, Res.bind, ih]
theorem all_map {α : Type} {l : List α} {f : α → Bool} {m : Sto} : evBf .all [.lst (l.map fun c => D.bl (f c))] m = .ok (.bl (l.all f)) m := by
  have : asBls (l.map fun c => D.bl (f c)) = some (l.map f) := by
    induction l with
    | nil => rfl
    | cons a l ih => simp [asBls, ih]
  show (match (lstOfR m (.lst (l.map fun c => D.bl (f c)))).bind asBls with
    | some bs => Res.ok (D.bl (bs.all id)) m
    | none => .stuck) = _
  show (match asBls (l.map fun c => D.bl (f c)) with
    | some bs => Res.ok (D.bl (bs.all id)) m
    | none => .stuck) = _
  rw [this]
  simp
theorem dig_mem (c : Nat) : (c ∈ (Str.ofString "0123456789").cps.toList) ↔ (48 ≤ c ∧ c ≤ 57) := by
  have : (Str.ofString "0123456789").cps.toList = [48, 49, 50, 51, 52, 53, 54, 55, 56, 57] := by decide +kernel
  rw [this]; simp; omega
theorem sign_in {c : Nat} {m : Sto} : evCmp .In (.str ⟨#[c]⟩) (.str "0123456789") m = .ok (.bl (decide (48 ≤ c ∧ c ≤ 57))) m := by
  show bRes m (if (⟨#[c]⟩ : Str).cps.size = 1 then some (decide ((⟨#[c]⟩ : Str).cps.getD 0 0 ∈ (Str.ofString "0123456789").cps.toList)) else none) = _
  rw [if_pos (show (⟨#[c]⟩ : Str).cps.size = 1 from rfl)]
  show Res.ok (D.bl (decide (c ∈ (Str.ofString "0123456789").cps.toList))) m = _
  congr 2
  rw [decide_eq_decide]
  exact dig_mem c
theorem lcA {w : Str} {m : Sto} (hl : w.length ≤ 80) : ev (.lc (.cmp .In (.var 2) (.glo "DIGITS" (.str "0123456789"))) (.name 2) (.lst (.var 0)) .nil [("sign", 2)]) [some (.str w), none, none] m = .ok (.lst ((TL.tl w).map fun c => D.bl (decide (48 ≤ c ∧ c ≤ 57)))) m := by
  have := lc_map2 (chk := Itm.chk ⟨w.cps.toList.map fun c => D.str ⟨#[c]⟩, none⟩) (ft := fun v m => asgn (.name 2) v (wipeE [some (.str w), none, none] [2]) m) (fb := fun e m => evIfs .nil e m) (fe := fun e m => ev (.cmp .In (.var 2) (.glo "DIGITS" (.str "0123456789"))) e m)
    (fun c : Nat => D.str ⟨#[c]⟩) (fun c => D.bl (decide (48 ≤ c ∧ c ≤ 57))) (m := m) rfl (TL.tl w) [] (fun c hc => ⟨_, rfl, rfl, by
      show (evCmp .In (.str ⟨#[c]⟩) (.str "0123456789") m).nox = _
      rw [sign_in]; rfl⟩) (by have := TL.len_tl w; simp only [List.length_nil]; omega)
  simp only [List.nil_append] at this
  exact this
theorem lcB {w : Str} {m : Sto} (hl : w.length ≤ 80) : ev (.lc (.cmp .In (.var 1) (.str "0123456789")) (.name 1) (.lst (.var 0)) .nil [("_law_sign", 1)]) [some (.str w), none] m = .ok (.lst ((TL.tl w).map fun c => D.bl (decide (48 ≤ c ∧ c ≤ 57)))) m := by
  have := lc_map2 (chk := Itm.chk ⟨w.cps.toList.map fun c => D.str ⟨#[c]⟩, none⟩) (ft := fun v m => asgn (.name 1) v (wipeE [some (.str w), none] [1]) m) (fb := fun e m => evIfs .nil e m) (fe := fun e m => ev (.cmp .In (.var 1) (.str "0123456789")) e m)
    (fun c : Nat => D.str ⟨#[c]⟩) (fun c => D.bl (decide (48 ≤ c ∧ c ≤ 57))) (m := m) rfl (TL.tl w) [] (fun c hc => ⟨_, rfl, rfl, by
      show (evCmp .In (.str ⟨#[c]⟩) (.str "0123456789") m).nox = _
      rw [sign_in]; rfl⟩) (by have := TL.len_tl w; simp only [List.length_nil]; omega)
  simp only [List.nil_append] at this
  exact this
theorem int_dig {w : Str} {m : Sto} (h : isD w = true) (h0 : w.length ≠ 0) (hl : w.length ≤ 80) : evBf .int [.str w] m = .ok (.int (NumText.digitsVal (TL.tl w) : Nat)) m := by
  show (if w.length ≤ 640 then (match PySem.intText? w with
    | some n => Res.ok (D.int n) m
    | none => .stuck) else .stuck) = _
  rw [if_pos (by omega), intText_digits (isD_iff.mp h) (by intro e; rw [TL.len_tl] at h0; exact h0 (by show (TL.tl w).length = 0; rw [show TL.tl w = [] from e]; rfl)) (by omega)]
theorem str_dig {w : Str} {m : Sto} (h : isD w = true) (hl : w.length ≤ 80) : evBf .str [.int (NumText.digitsVal (TL.tl w) : Nat)] m = .ok (.str (sn (NumText.digitsVal (TL.tl w) : Nat))) m := by
  have h1 := val_lt (isD_iff.mp h)
  rw [← TL.len_tl] at h1
  generalize NumText.digitsVal (TL.tl w) = n at *
  show (if ((n : Int)).natAbs.log2 < 1920 then Res.ok (D.str (toString (n : Int))) m else .stuck) = _
  rw [if_pos]
  · rfl
  · show n.log2 < 1920
    by_cases c : n = 0
    · subst c; decide
    · refine (Nat.log2_lt c).mpr (Nat.lt_of_lt_of_le h1 (Nat.le_trans (Nat.pow_le_pow_right (by decide) hl) ?_))
      exact Nat.le_trans (by decide +kernel : 10 ^ 80 ≤ 2 ^ 300) (Nat.pow_le_pow_right (by decide) (by decide))
def Bad (d : D) (k : Int) : Prop := (d = .non ∨ ∃ n, d = .int n ∧ T30 < n) ∧ (k = -1 ∨ T30 < k)
def Good (d : D) (k : Int) : Prop := d = .int k ∧ 0 ≤ k ∧ k ≤ T30
theorem empty_len : (Str.ofString "").length = 0 := rfl
theorem len0 {w : Str} (h : w.length = 0) : w = Str.ofString "" := by
  apply TL.ext_tl
  rw [TL.len_tl] at h
  rw [List.length_eq_zero_iff.mp h]; rfl
theorem p_read_any {w : Str} {m : Sto} (hw : w.length ≤ 16777216) : F_read_number [.str w] m = .ok (if w.length = 0 ∨ 80 < w.length ∨ isD w = false then .non else if sn (NumText.digitsVal (TL.tl w) : Nat) = w then .int (NumText.digitsVal (TL.tl w) : Nat) else .non) m := by
  by_cases h0 : w.length = 0
  · rw [len0 h0, if_pos (by left; rfl)]
    rfl
  have hne : ¬ (w = Str.ofString "") := fun e => h0 (by rw [e]; rfl)
  by_cases h8 : 80 < w.length
  · rw [if_pos (by right; left; exact h8)]
    have : (80 : Int) < w.length := by omega
    simp [-str_int, F_read_number, runF, ps_read_number, N_read_number, s_read_number, exs, ex, ev, evs, evOr, asgn, hne, hw, this]
  have h8' : ¬ (80 : Int) < w.length := by omega
  have e3 := fun m => lcA (w := w) (m := m) (by omega)
  have e4 : ∀ m, evBf .all [.lst ((TL.tl w).map fun c => D.bl (decide (48 ≤ c ∧ c ≤ 57)))] m = .ok (.bl (isD w)) m := fun m => all_map
  generalize ((TL.tl w).map fun c => D.bl (decide (48 ≤ c ∧ c ≤ 57))) = ll at *
  by_cases hd : isD w = true
  · have e1 := fun m => int_dig (m := m) hd h0 (by omega)
    have e2 := fun m => str_dig (m := m) hd (by omega)
    rw [if_neg (by simp [h0, h8, hd])]
    generalize NumText.digitsVal (TL.tl w) = n at *
    by_cases q : sn (n : Nat) = w
    · have q2 : (sn (n : Nat) == w) = true := by simpa using q
      simp [-str_int, F_read_number, runF, ps_read_number, N_read_number, s_read_number, exs, ex, ↓e3, e4, e1, e2, ev, evs, evOr, asgn, hne, hw, h8', hd, q]
    · simp [-str_int, F_read_number, runF, ps_read_number, N_read_number, s_read_number, exs, ex, ↓e3, e4, e1, e2, ev, evs, evOr, asgn, hne, hw, h8', hd, q]
  · have hd' : isD w = false := by simpa using hd
    rw [if_pos (by right; right; exact hd')]
    simp [-str_int, F_read_number, runF, ps_read_number, N_read_number, s_read_number, exs, ex, ↓e3, e4, ev, evs, evOr, asgn, hne, hw, h8', hd']
theorem atG {α : Type} {l : List α} {d : α} {i : Nat} {k : Int} (h : l[i]? = some d) (hk : k = (i : Nat)) : atI l k = some d := by
  have hl := (List.getElem?_eq_some_iff.mp h).1
  subst hk
  unfold atI ixN
  rw [if_pos (by omega), if_pos (by omega)]
  simpa using h
theorem at_head {l : List Nat} {c : Nat} {r : List Nat} (h : l = c :: r) : atI l 0 = some c := atG (i := 0) (by rw [h]; rfl) rfl
theorem p_law_any {w : Str} {m : Sto} (hw : w.length ≤ 16777216) : F__law_number [.str w] m = .ok (if w.length = 0 ∨ 60 ≤ w.length ∨ isD w = false then .int (-1) else if w = Str.ofString "0" ∨ (TL.tl w).head? ≠ some 48 then .int (NumText.digitsVal (TL.tl w) : Nat) else .int (-1)) m := by
  by_cases h0 : w.length = 0
  · rw [len0 h0, if_pos (by left; rfl)]
    rfl
  have q0 : 0 < w.length := by omega
  by_cases q : w = Str.ofString "0"
  · subst q; kernel_rfl
  by_cases h6 : 60 ≤ w.length
  · rw [if_pos (by right; left; exact h6)]
    have : ¬ ((w.length : Int) < 60) := by omega
    simp [-str_int, F__law_number, runF, ps__law_number, N__law_number, s__law_number, exs, ex, ev, evs, evOr, asgn, hw, this, h0, q0]
  have h6' : (w.length : Int) < 60 := by omega
  have e3 := fun m => lcB (w := w) (m := m) (by omega)
  have e4 : ∀ m, evBf .all [.lst ((TL.tl w).map fun c => D.bl (decide (48 ≤ c ∧ c ≤ 57)))] m = .ok (.bl (isD w)) m := fun m => all_map
  generalize ((TL.tl w).map fun c => D.bl (decide (48 ≤ c ∧ c ≤ 57))) = ll at *
  by_cases hd : isD w = true
  · have e1 := fun m => int_dig (m := m) hd h0 (by omega)
    rw [if_neg (by simp [h0, h6, hd])]
    obtain ⟨c, r, hcr⟩ : ∃ c r, TL.tl w = c :: r := by
      cases e : TL.tl w with
      | nil => rw [TL.len_tl, e] at h0; exact absurd rfl h0
      | cons c r => exact ⟨c, r, rfl⟩
    have i0 : ∀ m, evIdx (.str w) (.int 0) m = .ok (.str ⟨#[c]⟩) m := fun m => by
      show (if w.length ≤ 16777216 then (match atI w.cps.toList 0 with
        | some c => Res.ok (D.str ⟨#[c]⟩) m
        | none => .stuck) else .stuck) = _
      rw [if_pos hw, at_head hcr]
    have c0 : ∀ m, evCmp .NotEq (.str ⟨#[c]⟩) (.str "0") m = .ok (.bl (!decide (c = 48))) m := fun m => by
      show bRes m ((some (D.eqv (.str ⟨#[c]⟩) (.str "0"))).map not) = _
      have : D.eqv (.str ⟨#[c]⟩) (.str "0") = decide (c = 48) := by
        by_cases q : c = 48
        · subst q; decide +kernel
        · simp [D.eqv, q]
          intro e
          apply q
          have := congrArg TL.tl e
          rw [TL.tl_ofString] at this
          simpa [TL.tl] using this
      rw [this]; rfl
    have hh : (TL.tl w).head? = some c := by rw [hcr]; rfl
    generalize NumText.digitsVal (TL.tl w) = n at *
    have hs : ((⟨#[c]⟩ : Str) = Str.ofString "0") ↔ c = 48 := by
      have := c0 []
      constructor
      · intro e; rw [e] at this
        have e2 := congrArg TL.tl e
        rw [TL.tl_ofString] at e2
        simpa [TL.tl] using e2
      · intro e; subst e; decide +kernel
    generalize (⟨#[c]⟩ : Str) = s0 at *
    by_cases q2 : c = 48
    · simp [-str_int, F__law_number, runF, ps__law_number, N__law_number, s__law_number, exs, ex, ↓e3, e4, e1, ev, evs, evOr, asgn, hw, h6', hd, q0, h0, q, q2, i0, hs, hh]
    · simp [-str_int, F__law_number, runF, ps__law_number, N__law_number, s__law_number, exs, ex, ↓e3, e4, e1, ev, evs, evOr, asgn, hw, h6', hd, q0, h0, q, q2, i0, hs, hh]
  · have hd' : isD w = false := by simpa using hd
    rw [if_pos (by right; right; exact hd')]
    simp [-str_int, F__law_number, runF, ps__law_number, N__law_number, s__law_number, exs, ex, ↓e3, e4, ev, evs, evOr, asgn, hw, h6', hd', q0, h0]
/-- both readers of a word agree up to 10 ** 30 -/
theorem numW (w : Str) (hw : w.length ≤ 16777216) : ∃ d k, (∀ m, pureF F_read_number [.str w] m = .ok d m) ∧ (∀ m, pureF F__law_number [.str w] m = .ok (.int k) m) ∧ (Good d k ∨ Bad d k) := by
  have a := p_read_any (m := []) hw
  have b := p_law_any (m := []) hw
  have bad1 : Bad .non (-1) := ⟨.inl rfl, .inl rfl⟩
  by_cases h0 : w.length = 0
  · rw [if_pos (.inl h0)] at a b
    exact ⟨_, _, fun m => pure_ok rfl a rfl, fun m => pure_ok rfl b rfl, .inr bad1⟩
  by_cases h8 : 80 < w.length
  · rw [if_pos (.inr (.inl h8))] at a
    rw [if_pos (.inr (.inl (by omega)))] at b
    exact ⟨_, _, fun m => pure_ok rfl a rfl, fun m => pure_ok rfl b rfl, .inr bad1⟩
  by_cases hd : isD w = true
  · rw [if_neg (by simp [h0, h8, hd])] at a
    have ad := isD_iff.mp hd
    have vn := val_num ad
    by_cases q : sn (NumText.digitsVal (TL.tl w) : Nat) = w
    · rw [if_pos q] at a
      generalize hn : NumText.digitsVal (TL.tl w) = n at *
      have hh : w = Str.ofString "0" ∨ (TL.tl w).head? ≠ some 48 := by
        have q2 : TL.numL n = TL.tl w := by rw [← q, sn_tl (by omega)]; rfl
        by_cases c : (TL.tl w).head? = some 48
        · left
          rw [q2] at vn
          apply TL.ext_tl
          rw [show TL.tl (Str.ofString "0") = [48] by decide +kernel]
          cases e : (TL.tl w).dropWhile (· == 48) with
          | nil => rw [e] at vn; exact vn
          | cons x y =>
            rw [e] at vn
            have vn2 : TL.tl w = x :: y := vn
            have : (x :: y).head? = some 48 := by rw [← vn2]; exact c
            have hx : x = 48 := by simpa using this
            have := List.head?_dropWhile_not (p := (· == 48)) (l := TL.tl w)
            rw [e] at this
            simp [hx] at this
        · right; exact c
      by_cases h6 : 60 ≤ w.length
      · rw [if_pos (.inr (.inl h6))] at b
        refine ⟨_, _, fun m => pure_ok rfl a rfl, fun m => pure_ok rfl b rfl, .inr ⟨.inr ⟨_, rfl, ?_⟩, .inl rfl⟩⟩
        by_cases c : (n : Int) ≤ T30
        · have := sn_len (i := (n : Nat)) (by omega) c
          rw [q] at this; omega
        · omega
      · rw [if_neg (by simp [h0, h6, hd]), if_pos hh] at b
        refine ⟨_, _, fun m => pure_ok rfl a rfl, fun m => pure_ok rfl b rfl, ?_⟩
        by_cases c : (n : Int) ≤ T30
        · exact .inl ⟨rfl, by omega, c⟩
        · exact .inr ⟨.inr ⟨_, rfl, by omega⟩, .inr (by omega)⟩
    · rw [if_neg q] at a
      have hh : ¬ (w = Str.ofString "0" ∨ (TL.tl w).head? ≠ some 48) := by
        intro hh
        apply q
        apply TL.ext_tl
        rw [sn_tl (by omega)]
        show TL.numL (NumText.digitsVal (TL.tl w)) = _
        rcases hh with rfl | hh
        · decide +kernel
        · rw [vn]
          cases e : TL.tl w with
          | nil => rw [TL.len_tl, e] at h0; exact absurd rfl h0
          | cons x y =>
            rw [e] at hh
            have : ¬ x = 48 := by simpa using hh
            simp [List.dropWhile_cons, this]
      by_cases h6 : 60 ≤ w.length
      · rw [if_pos (.inr (.inl h6))] at b
        exact ⟨_, _, fun m => pure_ok rfl a rfl, fun m => pure_ok rfl b rfl, .inr bad1⟩
      · rw [if_neg (by simp [h0, h6, hd]), if_neg hh] at b
        exact ⟨_, _, fun m => pure_ok rfl a rfl, fun m => pure_ok rfl b rfl, .inr bad1⟩
  · have hd' : isD w = false := by simpa using hd
    rw [if_pos (.inr (.inr hd'))] at a
    rw [if_pos (.inr (.inr hd'))] at b
    exact ⟨_, _, fun m => pure_ok rfl a rfl, fun m => pure_ok rfl b rfl, .inr bad1⟩
end PQ
set_option Elab.async false
set_option linter.all false
set_option maxRecDepth 100000
set_option maxHeartbeats 4000000
namespace PQ
open PySem PySem.Spec L2 ME PG
/-! ### words of any text -/
theorem pre1 {c s : Nat} {r : List Nat} : TL.pre [s] (c :: r) = (c == s) := by
  simp [TL.pre]
theorem spl_sum : ∀ (l acc : List Nat), ((TL.spl [32] 0 acc l).map fun p => p.length + 1).sum = acc.length + l.length + 1
  | [], acc => by rw [TL.spl_nil]; simp
  | c :: r, acc => by
    by_cases h : c = 32
    · rw [TL.spl_hit (by rw [pre1]; simpa using h)]
      have := spl_sum r []
      simp at this ⊢
      rw [this]; omega
    · rw [TL.spl_miss (by rw [pre1]; simpa using h)]
      have := spl_sum r (acc ++ [c])
      rw [this]; simp; omega
theorem spl_mem {P : Nat → Prop} : ∀ (l acc : List Nat), (∀ c ∈ acc, P c) → (∀ c ∈ l, P c) → ∀ p ∈ TL.spl [32] 0 acc l, ∀ c ∈ p, P c
  | [], acc, h1, _ => by
    rw [TL.spl_nil]
    intro p hp c hc
    rw [List.mem_singleton.mp hp] at hc
    exact h1 c hc
  | c :: r, acc, h1, h2 => by
    by_cases h : c = 32
    · rw [TL.spl_hit (by rw [pre1]; simpa using h)]
      intro p hp
      rcases List.mem_cons.mp hp with rfl | hp
      · exact h1
      · exact spl_mem r [] (by simp) (fun d hd => h2 d (by simp [hd])) p hp
    · rw [TL.spl_miss (by rw [pre1]; simpa using h)]
      exact spl_mem r (acc ++ [c]) (fun d hd => by
        rcases List.mem_append.mp hd with hd | hd
        · exact h1 d hd
        · rw [List.mem_singleton.mp hd]; exact h2 c (by simp)) (fun d hd => h2 d (by simp [hd]))
theorem spl_ne : ∀ (l acc : List Nat), TL.spl [32] 0 acc l ≠ []
  | [], acc => by rw [TL.spl_nil]; simp
  | c :: r, acc => by
    by_cases h : c = 32
    · rw [TL.spl_hit (by rw [pre1]; simpa using h)]; simp
    · rw [TL.spl_miss (by rw [pre1]; simpa using h)]; exact spl_ne r _
theorem blank : TL.tl (Str.ofString " ") = [32] := by decide +kernel
theorem split_tl (x : Str) : (Txt.split x " ").map TL.tl = TL.spl [32] 0 [] (TL.tl x) := by
  have := TL.split_spl x (Str.ofString " ") (by rw [blank]; simp) (TL.kind_ok (by decide +kernel))
  rw [blank] at this
  exact this
/-- a text of valid signs, not too long -/
structure Ok (x : Str) (L : Nat) : Prop where
  so : PyData.strOk x = true
  len : x.length ≤ L
theorem so_iff {x : Str} : PyData.strOk x = true ↔ ∀ c ∈ TL.tl x, c < 1114112 := by
  unfold PyData.strOk TL.tl
  rw [← Array.all_toList]
  simp only [List.all_eq_true, decide_eq_true_eq]
def wsum (l : List Str) : Nat := (l.map fun w => w.length + 1).sum
theorem split_sum (x : Str) : wsum (Txt.split x " ") = x.length + 1 := by
  have h := spl_sum (TL.tl x) []
  rw [← split_tl, List.map_map] at h
  rw [TL.len_tl]
  unfold wsum
  simp only [Function.comp_def, ← TL.len_tl, List.length_nil, Nat.zero_add] at h
  rw [TL.len_tl] at h
  exact h
theorem split_ne (x : Str) : Txt.split x " " ≠ [] := by
  intro e
  have h := split_tl x
  rw [e] at h
  exact spl_ne _ _ h.symm
theorem split_so {x : Str} (h : PyData.strOk x = true) : ∀ w ∈ Txt.split x " ", PyData.strOk w = true := by
  intro w hw
  rw [so_iff] at h ⊢
  exact spl_mem (P := fun c => c < 1114112) (TL.tl x) [] (by simp) h (TL.tl w) (by rw [← split_tl]; exact List.mem_map.mpr ⟨w, hw, rfl⟩)
theorem sum_mem : ∀ (l : List Str) (w : Str), w ∈ l → w.length + 1 ≤ wsum l
  | a :: l, w, h => by
    rcases List.mem_cons.mp h with rfl | h
    · simp [wsum]
    · have := sum_mem l w h
      simp [wsum] at this ⊢; omega
theorem sum_len : ∀ (l : List Str), l.length ≤ wsum l
  | [] => by simp
  | a :: l => by have := sum_len l; simp [wsum] at this ⊢; omega
theorem split_ok {x : Str} {L : Nat} (h : Ok x L) : ∀ w ∈ Txt.split x " ", Ok w L := fun w hw => ⟨split_so h.so w hw, by
  have := sum_mem _ w hw
  rw [split_sum] at this
  have := h.len; omega⟩
theorem bm_split {x : Str} {m : Sto} (h : x.length ≤ 1000000) : evBm .split (.str x) [.str " "] m = .ok (.lst ((Txt.split x " ").map D.str)) m := bm_split' (by omega) rfl
/-! ### slices -/
theorem slc_nn {xs : List D} {a b : Nat} {m : Sto} (h : a ≤ b) (h2 : b ≤ xs.length) : evSlc (.lst xs) (some (a : Nat)) (some (b : Nat)) m = .ok (.lst ((xs.drop a).take (b - a))) m := by
  show Res.ok (D.lst (cutG xs (some (a : Nat)) (some (b : Nat)))) m = _
  unfold cutG
  rw [HT.sIx_nat, HT.sIx_nat, Nat.min_eq_left (show a ≤ xs.length by omega), Nat.min_eq_left h2]
theorem slc_n0 {xs : List D} {a : Nat} {m : Sto} : evSlc (.lst xs) (some (a : Nat)) none m = .ok (.lst (xs.drop a)) m := by
  show Res.ok (D.lst (cutG xs (some (a : Nat)) none)) m = _
  unfold cutG
  rw [HT.sIx_nat, HT.sIx_none]
  by_cases h : a ≤ xs.length
  · rw [Nat.min_eq_left h, List.take_of_length_le (by simp)]
  · rw [Nat.min_eq_right (by omega), List.drop_length, List.drop_eq_nil_of_le (by omega)]; simp
theorem slc_0n {xs : List D} {b : Nat} {m : Sto} : evSlc (.lst xs) none (some (b : Nat)) m = .ok (.lst (xs.take b)) m := by
  show Res.ok (D.lst (cutG xs none (some (b : Nat)))) m = _
  unfold cutG
  rw [HT.sIx_nat, HT.sIx_none]
  simp only [List.drop_zero, Nat.sub_zero]
  rw [← List.take_take, List.take_length]
/-! ### numbers to be words -/
def NI (d : D) : Prop := d = .non ∨ ∃ n, d = .int n
def inb (lo hi : Int) : D → Bool
  | .int n => decide (lo ≤ n) && decide (n ≤ hi)
  | _ => false
theorem ni_closed {d : D} (h : NI d) : d.closed = true := by rcases h with rfl | ⟨n, rfl⟩ <;> rfl
theorem int_any {d : D} {m : Sto} (h : NI d) : pureF F_is_integer [d] m = .ok (.bl (match d with | .int _ => true | _ => false)) m := by
  rcases h with rfl | ⟨n, rfl⟩
  · exact pure_ok (m1 := []) rfl (by kernel_rfl) rfl
  · exact p_is_integer
theorem p_within_any {d : D} {lo hi : Int} {m : Sto} (h : NI d) : pureF F_is_within [d, .int lo, .int hi] m = .ok (.bl (inb lo hi d)) m := pure_ok (by simp [D.closeds, ni_closed h, D.closed]) (by
  have := fun m => int_any (m := m) h
  rcases h with rfl | ⟨n, rfl⟩
  · simp [F_is_within, runF, ps_is_within, N_is_within, s_is_within, exs, ex, ev, evs, evAnd, this, inb]; rfl
  · by_cases c1 : lo ≤ n <;> by_cases c2 : n ≤ hi <;> simp [F_is_within, runF, ps_is_within, N_is_within, s_is_within, exs, ex, ev, evs, evAnd, this, inb, c1, c2] <;> rfl) rfl
def wl (a b c : D) : List D := if inb 1 T30 a = false then [.int 0] else if inb 1 T30 b = false then [.int 1] else if inb 1 T30 c = false then [.int 2] else []
theorem wrong_any {a b c : D} {m : Sto} (ha : NI a) (hb : NI b) (hc : NI c) : pureF F_wrong_number [.tup [a, b, c]] m = .ok (.tup (wl a b c)) m := pure_ok (m1 := []) (by simp [D.closeds, D.closed, ni_closed ha, ni_closed hb, ni_closed hc]) (by
  have y1 : ∀ m, pureF F_is_within [a, .int 1, .int 1000000000000000000000000000000] m = .ok (.bl (inb 1 T30 a)) m := fun m => p_within_any ha
  have y2 : ∀ m, pureF F_is_within [b, .int 1, .int 1000000000000000000000000000000] m = .ok (.bl (inb 1 T30 b)) m := fun m => p_within_any hb
  have y3 : ∀ m, pureF F_is_within [c, .int 1, .int 1000000000000000000000000000000] m = .ok (.bl (inb 1 T30 c)) m := fun m => p_within_any hc
  unfold wl
  generalize inb 1 T30 a = p1 at *
  generalize inb 1 T30 b = p2 at *
  generalize inb 1 T30 c = p3 at *
  cases p1 <;> cases p2 <;> cases p3 <;>
  (simp [F_wrong_number, runF, ps_wrong_number, N_wrong_number, s_wrong_number, exs, ex, ev, evs, evOr, evIt, itEnum, forLoop, Itm.chk, asgn, asgns, seqOf, evIsi, tyOf, bRes, kit_tuple_tuple, y1, y2, y3])) (by unfold wl; cases inb 1 T30 a <;> cases inb 1 T30 b <;> cases inb 1 T30 c <;> rfl)
theorem ne_wl {a b c : D} {m : Sto} : evCmp .NotEq (.tup (wl a b c)) (.tup []) m = .ok (.bl (!(inb 1 T30 a && inb 1 T30 b && inb 1 T30 c))) m := by
  unfold wl
  cases inb 1 T30 a <;> cases inb 1 T30 b <;> cases inb 1 T30 c <;> kernel_rfl
end PQ
set_option Elab.async false
set_option linter.all false
set_option maxRecDepth 100000
set_option maxHeartbeats 4000000
namespace PQ
open PySem PySem.Spec L2 ME PG
theorem so3 : PyData.strOk "upper" = true ∧ PyData.strOk "lower" = true ∧ PyData.strOk "hears" = true ∧ PyData.strOk "misses" = true ∧ PyData.strOk "moved" = true ∧ PyData.strOk "each" = true := by decide +kernel
theorem head_ne {a b c : Str} {m : Sto} (h1 : PyData.strOk a = true) (h2 : PyData.strOk b = true) (h3 : PyData.strOk c = true) :
    evCmp .NotEq (.lst [.str a, .str b, .str c]) (.lst [.str "upper", .str "lower", .str "hears"]) m = .ok (.bl (!(a == "upper" && (b == "lower" && c == "hears")))) m := by
  obtain ⟨q1, q2, q3, _⟩ := so3
  simp [evCmp, eqD, D.scal, D.flat, seen, lstOfR, lstOf, okEq, D.lay, D.lays, D.dep, D.deps, D.eqv, D.eqvs, bRes, h1, h2, h3, q1, q2, q3]
section
variable {x a0 a1 a2 a3 a4 a5 a6 a7 a8 a9 a10 a11 : Str} {d1 d2 d3 d5 d6 d7 hr : D} {m : Sto} {hne b1 b2 hn : Bool} {l1 l2 : List D}
theorem rp_ten (y0 : ∀ m, evBm .split (.str x) [.str " "] m = .ok (.lst [.str a0, .str a1, .str a2, .str a3, .str a4, .str a5, .str a6, .str a7, .str a8, .str a9]) m)
    (hd : ∀ m, evCmp .NotEq (.lst [.str a0, .str a4, .str a8]) (.lst [.str "upper", .str "lower", .str "hears"]) m = .ok (.bl hne) m)
    (n1 : ∀ m, pureF F_read_number [.str a1] m = .ok d1 m) (n2 : ∀ m, pureF F_read_number [.str a2] m = .ok d2 m) (n3 : ∀ m, pureF F_read_number [.str a3] m = .ok d3 m)
    (n5 : ∀ m, pureF F_read_number [.str a5] m = .ok d5 m) (n6 : ∀ m, pureF F_read_number [.str a6] m = .ok d6 m) (n7 : ∀ m, pureF F_read_number [.str a7] m = .ok d7 m)
    (rh : ∀ m, pureF F_read_hears [.lst [.str a9]] m = .ok hr m) (isn : ∀ m, evCmp .Is hr .non m = .ok (.bl hn) m)
    (w1 : ∀ m, pureF F_wrong_number [.tup [d1, d2, d3]] m = .ok (.tup l1) m) (w2 : ∀ m, pureF F_wrong_number [.tup [d5, d6, d7]] m = .ok (.tup l2) m)
    (e1 : ∀ m, evCmp .NotEq (.tup l1) (.tup []) m = .ok (.bl b1) m) (e2 : ∀ m, evCmp .NotEq (.tup l2) (.tup []) m = .ok (.bl b2) m)
    {k : Int} (hm : b1 = false → b2 = false → ∀ m, evBin .Mod d7 d3 m = .ok (.int k) m) :
    F_read_pair [.str x] m = .ok (if hne || (hn || (b1 || (b2 || !decide (k = 0)))) then .non else .tup [.tup [d1, d2, d3], .tup [d5, d6, d7], hr]) m := by
  cases hne
  · cases hn
    · cases b1
      · cases b2
        · have mo := hm rfl rfl
          by_cases c : k = 0
          · simp [F_read_pair, runF, ps_read_pair, N_read_pair, s_read_pair, exs, ex, ev, evs, evIt, evIfs, evOr, itAny, itLst, lstOfR, lstOf, lcLoop, Itm.chk, wipeE, asgn, asgns, seqOf, toPart, bmTy, Bm.ty, tyOf, evIsi, bRes, kit_str_str, at0, at1, at2, i4, i8, y0, slc_1, slc_2, slc_3, hd, n1, n2, n3, n5, n6, n7, rh, isn, w1, w2, e1, e2, mo, c]
          · simp [F_read_pair, runF, ps_read_pair, N_read_pair, s_read_pair, exs, ex, ev, evs, evIt, evIfs, evOr, itAny, itLst, lstOfR, lstOf, lcLoop, Itm.chk, wipeE, asgn, asgns, seqOf, toPart, bmTy, Bm.ty, tyOf, evIsi, bRes, kit_str_str, at0, at1, at2, i4, i8, y0, slc_1, slc_2, slc_3, hd, n1, n2, n3, n5, n6, n7, rh, isn, w1, w2, e1, e2, mo, c]
        · simp [F_read_pair, runF, ps_read_pair, N_read_pair, s_read_pair, exs, ex, ev, evs, evIt, evIfs, evOr, itAny, itLst, lstOfR, lstOf, lcLoop, Itm.chk, wipeE, asgn, asgns, seqOf, toPart, bmTy, Bm.ty, tyOf, evIsi, bRes, kit_str_str, at0, at1, at2, i4, i8, y0, slc_1, slc_2, slc_3, hd, n1, n2, n3, n5, n6, n7, rh, isn, w1, w2, e1, e2]
      · simp [F_read_pair, runF, ps_read_pair, N_read_pair, s_read_pair, exs, ex, ev, evs, evIt, evIfs, evOr, itAny, itLst, lstOfR, lstOf, lcLoop, Itm.chk, wipeE, asgn, asgns, seqOf, toPart, bmTy, Bm.ty, tyOf, evIsi, bRes, kit_str_str, at0, at1, at2, i4, i8, y0, slc_1, slc_2, slc_3, hd, n1, n2, n3, n5, n6, n7, rh, isn, w1, w2, e1, e2]
    · simp [F_read_pair, runF, ps_read_pair, N_read_pair, s_read_pair, exs, ex, ev, evs, evIt, evIfs, evOr, itAny, itLst, lstOfR, lstOf, lcLoop, Itm.chk, wipeE, asgn, asgns, seqOf, toPart, bmTy, Bm.ty, tyOf, evIsi, bRes, kit_str_str, at0, at1, at2, i4, i8, y0, slc_1, slc_2, slc_3, hd, n1, n2, n3, n5, n6, n7, rh, isn]
  · simp [F_read_pair, runF, ps_read_pair, N_read_pair, s_read_pair, exs, ex, ev, evs, evIt, evIfs, evOr, itAny, itLst, lstOfR, lstOf, lcLoop, Itm.chk, wipeE, asgn, asgns, seqOf, toPart, bmTy, Bm.ty, tyOf, evIsi, bRes, kit_str_str, at0, at1, at2, i4, i8, y0, hd]
theorem rp_el (y0 : ∀ m, evBm .split (.str x) [.str " "] m = .ok (.lst [.str a0, .str a1, .str a2, .str a3, .str a4, .str a5, .str a6, .str a7, .str a8, .str a9, .str a10]) m)
    (hd : ∀ m, evCmp .NotEq (.lst [.str a0, .str a4, .str a8]) (.lst [.str "upper", .str "lower", .str "hears"]) m = .ok (.bl hne) m)
    (n1 : ∀ m, pureF F_read_number [.str a1] m = .ok d1 m) (n2 : ∀ m, pureF F_read_number [.str a2] m = .ok d2 m) (n3 : ∀ m, pureF F_read_number [.str a3] m = .ok d3 m)
    (n5 : ∀ m, pureF F_read_number [.str a5] m = .ok d5 m) (n6 : ∀ m, pureF F_read_number [.str a6] m = .ok d6 m) (n7 : ∀ m, pureF F_read_number [.str a7] m = .ok d7 m)
    (rh : ∀ m, pureF F_read_hears [.lst [.str a9, .str a10]] m = .ok hr m) (isn : ∀ m, evCmp .Is hr .non m = .ok (.bl hn) m)
    (w1 : ∀ m, pureF F_wrong_number [.tup [d1, d2, d3]] m = .ok (.tup l1) m) (w2 : ∀ m, pureF F_wrong_number [.tup [d5, d6, d7]] m = .ok (.tup l2) m)
    (e1 : ∀ m, evCmp .NotEq (.tup l1) (.tup []) m = .ok (.bl b1) m) (e2 : ∀ m, evCmp .NotEq (.tup l2) (.tup []) m = .ok (.bl b2) m)
    {k : Int} (hm : b1 = false → b2 = false → ∀ m, evBin .Mod d7 d3 m = .ok (.int k) m) :
    F_read_pair [.str x] m = .ok (if hne || (hn || (b1 || (b2 || !decide (k = 0)))) then .non else .tup [.tup [d1, d2, d3], .tup [d5, d6, d7], hr]) m := by
  cases hne
  · cases hn
    · cases b1
      · cases b2
        · have mo := hm rfl rfl
          by_cases c : k = 0
          · simp [F_read_pair, runF, ps_read_pair, N_read_pair, s_read_pair, exs, ex, ev, evs, evIt, evIfs, evOr, itAny, itLst, lstOfR, lstOf, lcLoop, Itm.chk, wipeE, asgn, asgns, seqOf, toPart, bmTy, Bm.ty, tyOf, evIsi, bRes, kit_str_str, at0, at1, at2, i4, i8, y0, slc_4, slc_5, slc_6, hd, n1, n2, n3, n5, n6, n7, rh, isn, w1, w2, e1, e2, mo, c]
          · simp [F_read_pair, runF, ps_read_pair, N_read_pair, s_read_pair, exs, ex, ev, evs, evIt, evIfs, evOr, itAny, itLst, lstOfR, lstOf, lcLoop, Itm.chk, wipeE, asgn, asgns, seqOf, toPart, bmTy, Bm.ty, tyOf, evIsi, bRes, kit_str_str, at0, at1, at2, i4, i8, y0, slc_4, slc_5, slc_6, hd, n1, n2, n3, n5, n6, n7, rh, isn, w1, w2, e1, e2, mo, c]
        · simp [F_read_pair, runF, ps_read_pair, N_read_pair, s_read_pair, exs, ex, ev, evs, evIt, evIfs, evOr, itAny, itLst, lstOfR, lstOf, lcLoop, Itm.chk, wipeE, asgn, asgns, seqOf, toPart, bmTy, Bm.ty, tyOf, evIsi, bRes, kit_str_str, at0, at1, at2, i4, i8, y0, slc_4, slc_5, slc_6, hd, n1, n2, n3, n5, n6, n7, rh, isn, w1, w2, e1, e2]
      · simp [F_read_pair, runF, ps_read_pair, N_read_pair, s_read_pair, exs, ex, ev, evs, evIt, evIfs, evOr, itAny, itLst, lstOfR, lstOf, lcLoop, Itm.chk, wipeE, asgn, asgns, seqOf, toPart, bmTy, Bm.ty, tyOf, evIsi, bRes, kit_str_str, at0, at1, at2, i4, i8, y0, slc_4, slc_5, slc_6, hd, n1, n2, n3, n5, n6, n7, rh, isn, w1, w2, e1, e2]
    · simp [F_read_pair, runF, ps_read_pair, N_read_pair, s_read_pair, exs, ex, ev, evs, evIt, evIfs, evOr, itAny, itLst, lstOfR, lstOf, lcLoop, Itm.chk, wipeE, asgn, asgns, seqOf, toPart, bmTy, Bm.ty, tyOf, evIsi, bRes, kit_str_str, at0, at1, at2, i4, i8, y0, slc_4, slc_5, slc_6, hd, n1, n2, n3, n5, n6, n7, rh, isn]
  · simp [F_read_pair, runF, ps_read_pair, N_read_pair, s_read_pair, exs, ex, ev, evs, evIt, evIfs, evOr, itAny, itLst, lstOfR, lstOf, lcLoop, Itm.chk, wipeE, asgn, asgns, seqOf, toPart, bmTy, Bm.ty, tyOf, evIsi, bRes, kit_str_str, at0, at1, at2, i4, i8, y0, hd]
theorem rp_more {t : List D} (y0 : ∀ m, evBm .split (.str x) [.str " "] m = .ok (.lst (.str a0 :: .str a1 :: .str a2 :: .str a3 :: .str a4 :: .str a5 :: .str a6 :: .str a7 :: .str a8 :: .str a9 :: .str a10 :: .str a11 :: t)) m)
    (hd : ∀ m, evCmp .NotEq (.lst [.str a0, .str a4, .str a8]) (.lst [.str "upper", .str "lower", .str "hears"]) m = .ok (.bl hne) m)
    (s1 : ∀ m, evSlc (.lst (.str a0 :: .str a1 :: .str a2 :: .str a3 :: .str a4 :: .str a5 :: .str a6 :: .str a7 :: .str a8 :: .str a9 :: .str a10 :: .str a11 :: t)) (some 1) (some 4) m = .ok (.lst [.str a1, .str a2, .str a3]) m)
    (s2 : ∀ m, evSlc (.lst (.str a0 :: .str a1 :: .str a2 :: .str a3 :: .str a4 :: .str a5 :: .str a6 :: .str a7 :: .str a8 :: .str a9 :: .str a10 :: .str a11 :: t)) (some 5) (some 8) m = .ok (.lst [.str a5, .str a6, .str a7]) m)
    (s3 : ∀ m, evSlc (.lst (.str a0 :: .str a1 :: .str a2 :: .str a3 :: .str a4 :: .str a5 :: .str a6 :: .str a7 :: .str a8 :: .str a9 :: .str a10 :: .str a11 :: t)) (some 9) none m = .ok (.lst (.str a9 :: .str a10 :: .str a11 :: t)) m)
    (n1 : ∀ m, pureF F_read_number [.str a1] m = .ok d1 m) (n2 : ∀ m, pureF F_read_number [.str a2] m = .ok d2 m) (n3 : ∀ m, pureF F_read_number [.str a3] m = .ok d3 m)
    (n5 : ∀ m, pureF F_read_number [.str a5] m = .ok d5 m) (n6 : ∀ m, pureF F_read_number [.str a6] m = .ok d6 m) (n7 : ∀ m, pureF F_read_number [.str a7] m = .ok d7 m)
    (rh : ∀ m, pureF F_read_hears [.lst (.str a9 :: .str a10 :: .str a11 :: t)] m = .ok .non m) :
    F_read_pair [.str x] m = .ok .non m := by
  have q : ¬ ((t.length : Int) + 1 + 1 + 1 + 1 + 1 + 1 + 1 + 1 + 1 + 1 + 1 + 1 < 10) := by omega
  cases hne
  · simp [F_read_pair, runF, ps_read_pair, N_read_pair, s_read_pair, exs, ex, ev, evs, evIt, evIfs, evOr, itAny, itLst, lstOfR, lstOf, lcLoop, Itm.chk, wipeE, asgn, asgns, seqOf, toPart, bmTy, Bm.ty, tyOf, evIsi, bRes, kit_str_str, at0, at1, at2, i4, i8, y0, q, s1, s2, s3, hd, n1, n2, n3, n5, n6, n7, rh]
  · simp [F_read_pair, runF, ps_read_pair, N_read_pair, s_read_pair, exs, ex, ev, evs, evIt, evIfs, evOr, itAny, itLst, lstOfR, lstOf, lcLoop, Itm.chk, wipeE, asgn, asgns, seqOf, toPart, bmTy, Bm.ty, tyOf, evIsi, bRes, kit_str_str, at0, at1, at2, i4, i8, y0, q, hd]
theorem rp_few {l : List D} (y0 : ∀ m, evBm .split (.str x) [.str " "] m = .ok (.lst l) m) (h : l.length < 10) : F_read_pair [.str x] m = .ok .non m := by
  have q : (l.length : Int) < 10 := by omega
  simp [F_read_pair, runF, ps_read_pair, N_read_pair, s_read_pair, exs, ex, ev, evs, evIt, evIfs, evOr, itAny, itLst, lstOfR, lstOf, lcLoop, Itm.chk, wipeE, asgn, asgns, seqOf, toPart, bmTy, Bm.ty, tyOf, evIsi, bRes, kit_str_str, at0, at1, at2, i4, i8, y0, q]
theorem lr_odd {l : List D} (y0 : ∀ m, evBm .split (.str x) [.str " "] m = .ok (.lst l) m) (h : l.length < 10 ∨ 12 ≤ l.length) : F__law_read [.str x] m = .ok (.tup []) m := by
  by_cases q : 9 < (l.length : Int)
  · have q2 : ¬ (l.length : Int) < 12 := by omega
    simp [F__law_read, runF, ps__law_read, N__law_read, s__law_read, exs, ex, ev, evs, evIt, evIfs, evOr, itAny, itLst, lstOfR, lstOf, lcLoop, Itm.chk, wipeE, asgn, asgns, seqOf, toPart, bmTy, Bm.ty, tyOf, evIsi, bRes, kit_str_str, at0, at1, at2, i4, i8, y0, q, q2]
  · simp [F__law_read, runF, ps__law_read, N__law_read, s__law_read, exs, ex, ev, evs, evIt, evIfs, evOr, itAny, itLst, lstOfR, lstOf, lcLoop, Itm.chk, wipeE, asgn, asgns, seqOf, toPart, bmTy, Bm.ty, tyOf, evIsi, bRes, kit_str_str, at0, at1, at2, i4, i8, y0, q]
end
end PQ
set_option Elab.async false
set_option linter.all false
set_option maxRecDepth 100000
set_option maxHeartbeats 4000000
namespace PQ
open PySem PySem.Spec L2 ME PG
section
variable {b0 b1 b2 b3 b4 b5 b6 b7 b8 b9 b10 : D} {l : List D}
theorem i5 : atI (b0 :: b1 :: b2 :: b3 :: b4 :: b5 :: l) 5 = some b5 := atN (i := 5) rfl rfl
theorem i9 : atI (b0 :: b1 :: b2 :: b3 :: b4 :: b5 :: b6 :: b7 :: b8 :: b9 :: l) 9 = some b9 := atN (i := 9) rfl rfl
theorem i10 : atI (b0 :: b1 :: b2 :: b3 :: b4 :: b5 :: b6 :: b7 :: b8 :: b9 :: b10 :: l) 10 = some b10 := atN (i := 10) rfl rfl
theorem slc_c {m : Sto} : evSlc (.lst [b0, b1, b2, b3, b4, b5]) none (some 3) m = .ok (.lst [b0, b1, b2]) m := by kernel_rfl
end
def mo2 (w : Str) : Bool := decide (w = Str.ofString "misses" ∨ w = Str.ofString "moved")
theorem notin {w : Str} {m : Sto} : evCmp .NotIn (.str w) (.lst [.str "misses", .str "moved"]) m = .ok (.bl (!mo2 w)) m := by
  unfold mo2
  by_cases h1 : w = Str.ofString "misses"
  · subst h1; kernel_rfl
  · by_cases h2 : w = Str.ofString "moved"
    · subst h2; kernel_rfl
    · have h1' : ¬ (Str.ofString "misses" = w) := fun e => h1 e.symm
      have h2' : ¬ (Str.ofString "moved" = w) := fun e => h2 e.symm
      simp [evCmp, memD, seqOf, lstOfR, lstOf, D.flat, D.eqv, bRes, h1, h2, h1', h2']
theorem inpair {w : Str} {m : Sto} : evCmp .In (.str w) (.tup [.str "misses", .str "moved"]) m = .ok (.bl (mo2 w)) m := by
  unfold mo2
  by_cases h1 : w = Str.ofString "misses"
  · subst h1; kernel_rfl
  · by_cases h2 : w = Str.ofString "moved"
    · subst h2; kernel_rfl
    · have h1' : ¬ (Str.ofString "misses" = w) := fun e => h1 e.symm
      have h2' : ¬ (Str.ofString "moved" = w) := fun e => h2 e.symm
      simp [evCmp, memD, seqOf, lstOfR, lstOf, D.flat, D.eqv, bRes, h1, h2, h1', h2']
theorem rh_one {w : Str} {m : Sto} : pureF F_read_hears [.lst [.str w]] m = .ok (if mo2 w = true then .str w else .non) m := pure_ok (m1 := []) (by simp [D.closeds, D.closed]) (by
  cases q : mo2 w <;> (simp [F_read_hears, runF, ps_read_hears, N_read_hears, s_read_hears, exs, ex, ev, evs, evOr, evAnd, asgn, at0, at1, inpair, q]; try rfl)) (by cases mo2 w <;> rfl)
def hr2 (a : Str) (d : D) : D := if a = Str.ofString "each" then (match d with
  | .int n => if T30 < n then .non else .tup [.str "each", .int n]
  | _ => .non) else .non
theorem rh_two {a b : Str} {d : D} {m : Sto} (n : ∀ m, pureF F_read_number [.str b] m = .ok d m) (h : NI d) : pureF F_read_hears [.lst [.str a, .str b]] m = .ok (hr2 a d) m := pure_ok (m1 := []) (by simp [D.closeds, D.closed]) (by
  unfold hr2
  by_cases q : a = Str.ofString "each"
  · rcases h with rfl | ⟨i, rfl⟩
    · simp [F_read_hears, runF, ps_read_hears, N_read_hears, s_read_hears, exs, ex, ev, evs, evOr, evAnd, asgn, at0, at1, n, q]
      try rfl
    · by_cases c : T30 < i
      · have c' : 1000000000000000000000000000000 < i := c
        simp [F_read_hears, runF, ps_read_hears, N_read_hears, s_read_hears, exs, ex, ev, evs, evOr, evAnd, asgn, at0, at1, n, q, c']
        try rfl
      · have c' : ¬ 1000000000000000000000000000000 < i := c
        simp [F_read_hears, runF, ps_read_hears, N_read_hears, s_read_hears, exs, ex, ev, evs, evOr, evAnd, asgn, at0, at1, n, q, c']
        try rfl
  · simp [F_read_hears, runF, ps_read_hears, N_read_hears, s_read_hears, exs, ex, ev, evs, evOr, evAnd, asgn, at0, at1, n, q]
    try rfl) (by
  unfold hr2
  rcases h with rfl | ⟨i, rfl⟩ <;> repeat' split <;> simp_all [D.closed, D.closeds])
theorem rh_many {a b c : D} {t : List D} {m : Sto} (hc : D.closeds (a :: b :: c :: t) = true) : pureF F_read_hears [.lst (a :: b :: c :: t)] m = .ok .non m := pure_ok (m1 := []) (by rw [D.closeds]; rw [D.closed, hc]; rfl) (by
  have q1 : ¬ ((t.length : Int) + 1 + 1 + 1 = 1) := by omega
  have q2 : ¬ ((t.length : Int) + 1 + 1 + 1 = 2) := by omega
  simp [F_read_hears, runF, ps_read_hears, N_read_hears, s_read_hears, exs, ex, ev, evs, evOr, evAnd, asgn, at0, at1, q1, q2]
  try rfl) rfl
section
variable {x a0 a1 a2 a3 a4 a5 a6 a7 a8 a9 a10 a11 : Str} {k1 k2 k3 k5 k6 k7 k10 mn mx kk : Int} {m : Sto} {hne : Bool}
theorem lr_ten (y0 : ∀ m, evBm .split (.str x) [.str " "] m = .ok (.lst [.str a0, .str a1, .str a2, .str a3, .str a4, .str a5, .str a6, .str a7, .str a8, .str a9]) m)
    (hd : ∀ m, evCmp .NotEq (.lst [.str a0, .str a4, .str a8]) (.lst [.str "upper", .str "lower", .str "hears"]) m = .ok (.bl hne) m)
    (n1 : ∀ m, pureF F__law_number [.str a1] m = .ok (.int k1) m) (n2 : ∀ m, pureF F__law_number [.str a2] m = .ok (.int k2) m) (n3 : ∀ m, pureF F__law_number [.str a3] m = .ok (.int k3) m)
    (n5 : ∀ m, pureF F__law_number [.str a5] m = .ok (.int k5) m) (n6 : ∀ m, pureF F__law_number [.str a6] m = .ok (.int k6) m) (n7 : ∀ m, pureF F__law_number [.str a7] m = .ok (.int k7) m)
    (e1 : ∀ m, evBf .min1 [.lst [.int k1, .int k2, .int k3, .int k5, .int k6, .int k7]] m = .ok (.int mn) m) (e2 : ∀ m, evBf .max1 [.lst [.int k1, .int k2, .int k3, .int k5, .int k6, .int k7]] m = .ok (.int mx) m)
    (hm : ∀ m, evBin .Mod (.int k7) (.int (if k3 > 1 then k3 else 1)) m = .ok (.int kk) m) :
    F__law_read [.str x] m = .ok (if hne || (decide (mn < 1) || (decide (T30 < mx) || !decide (kk = 0))) then .tup [] else if mo2 a9 = true then .tup [.tup [.int k1, .int k2, .int k3], .tup [.int k5, .int k6, .int k7], .str a9] else .tup []) m := by
  cases hne
  · by_cases c1 : mn < 1
    · simp [F__law_read, runF, ps__law_read, N__law_read, s__law_read, exs, ex, ev, evs, evIt, evIfs, evOr, itAny, itLst, lstOfR, lstOf, lcLoop, Itm.chk, wipeE, asgn, asgns, seqOf, toPart, bmTy, Bm.ty, tyOf, evIsi, bRes, kit_str_str, at0, at1, at2, i4, i5, i8, i9, i10, y0, pw30, notin, slc_1, slc_2, slc_a, slc_b, hd, n1, n2, n3, n5, n6, n7, e1, e2, c1]
    · by_cases c2 : T30 < mx
      · simp [F__law_read, runF, ps__law_read, N__law_read, s__law_read, exs, ex, ev, evs, evIt, evIfs, evOr, itAny, itLst, lstOfR, lstOf, lcLoop, Itm.chk, wipeE, asgn, asgns, seqOf, toPart, bmTy, Bm.ty, tyOf, evIsi, bRes, kit_str_str, at0, at1, at2, i4, i5, i8, i9, i10, y0, pw30, notin, slc_1, slc_2, slc_a, slc_b, hd, n1, n2, n3, n5, n6, n7, e1, e2, c1, c2]
      · by_cases c3 : kk = 0
        · cases c4 : mo2 a9
          · simp [F__law_read, runF, ps__law_read, N__law_read, s__law_read, exs, ex, ev, evs, evIt, evIfs, evOr, itAny, itLst, lstOfR, lstOf, lcLoop, Itm.chk, wipeE, asgn, asgns, seqOf, toPart, bmTy, Bm.ty, tyOf, evIsi, bRes, kit_str_str, at0, at1, at2, i4, i5, i8, i9, i10, y0, pw30, notin, slc_1, slc_2, slc_a, slc_b, hd, n1, n2, n3, n5, n6, n7, e1, e2, c1, c2, hm, c3, c4]
          · simp [F__law_read, runF, ps__law_read, N__law_read, s__law_read, exs, ex, ev, evs, evIt, evIfs, evOr, itAny, itLst, lstOfR, lstOf, lcLoop, Itm.chk, wipeE, asgn, asgns, seqOf, toPart, bmTy, Bm.ty, tyOf, evIsi, bRes, kit_str_str, at0, at1, at2, i4, i5, i8, i9, i10, y0, pw30, notin, slc_1, slc_2, slc_a, slc_b, hd, n1, n2, n3, n5, n6, n7, e1, e2, c1, c2, hm, c3, c4]
        · simp [F__law_read, runF, ps__law_read, N__law_read, s__law_read, exs, ex, ev, evs, evIt, evIfs, evOr, itAny, itLst, lstOfR, lstOf, lcLoop, Itm.chk, wipeE, asgn, asgns, seqOf, toPart, bmTy, Bm.ty, tyOf, evIsi, bRes, kit_str_str, at0, at1, at2, i4, i5, i8, i9, i10, y0, pw30, notin, slc_1, slc_2, slc_a, slc_b, hd, n1, n2, n3, n5, n6, n7, e1, e2, c1, c2, hm, c3]
  · simp [F__law_read, runF, ps__law_read, N__law_read, s__law_read, exs, ex, ev, evs, evIt, evIfs, evOr, itAny, itLst, lstOfR, lstOf, lcLoop, Itm.chk, wipeE, asgn, asgns, seqOf, toPart, bmTy, Bm.ty, tyOf, evIsi, bRes, kit_str_str, at0, at1, at2, i4, i5, i8, i9, i10, y0, pw30, notin, hd]
theorem lr_el (y0 : ∀ m, evBm .split (.str x) [.str " "] m = .ok (.lst [.str a0, .str a1, .str a2, .str a3, .str a4, .str a5, .str a6, .str a7, .str a8, .str a9, .str a10]) m)
    (hd : ∀ m, evCmp .NotEq (.lst [.str a0, .str a4, .str a8]) (.lst [.str "upper", .str "lower", .str "hears"]) m = .ok (.bl hne) m)
    (n1 : ∀ m, pureF F__law_number [.str a1] m = .ok (.int k1) m) (n2 : ∀ m, pureF F__law_number [.str a2] m = .ok (.int k2) m) (n3 : ∀ m, pureF F__law_number [.str a3] m = .ok (.int k3) m)
    (n5 : ∀ m, pureF F__law_number [.str a5] m = .ok (.int k5) m) (n6 : ∀ m, pureF F__law_number [.str a6] m = .ok (.int k6) m) (n7 : ∀ m, pureF F__law_number [.str a7] m = .ok (.int k7) m)
    (n10 : ∀ m, pureF F__law_number [.str a10] m = .ok (.int k10) m)
    (e1 : ∀ m, evBf .min1 [.lst [.int k1, .int k2, .int k3, .int k5, .int k6, .int k7]] m = .ok (.int mn) m) (e2 : ∀ m, evBf .max1 [.lst [.int k1, .int k2, .int k3, .int k5, .int k6, .int k7]] m = .ok (.int mx) m)
    (hm : ∀ m, evBin .Mod (.int k7) (.int (if k3 > 1 then k3 else 1)) m = .ok (.int kk) m) :
    F__law_read [.str x] m = .ok (if hne || (decide (mn < 1) || (decide (T30 < mx) || !decide (kk = 0))) then .tup [] else if a9 = Str.ofString "each" ∧ 0 ≤ k10 ∧ k10 ≤ T30 then .tup [.tup [.int k1, .int k2, .int k3], .tup [.int k5, .int k6, .int k7], .tup [.str "each", .int k10]] else .tup []) m := by
  cases hne
  · by_cases c1 : mn < 1
    · simp [F__law_read, runF, ps__law_read, N__law_read, s__law_read, exs, ex, ev, evs, evIt, evIfs, evOr, itAny, itLst, lstOfR, lstOf, lcLoop, Itm.chk, wipeE, asgn, asgns, seqOf, toPart, bmTy, Bm.ty, tyOf, evIsi, bRes, kit_str_str, at0, at1, at2, i4, i5, i8, i9, i10, y0, pw30, notin, slc_4, slc_5, slc_a, slc_b, hd, n1, n2, n3, n5, n6, n7, e1, e2, c1]
    · by_cases c2 : T30 < mx
      · simp [F__law_read, runF, ps__law_read, N__law_read, s__law_read, exs, ex, ev, evs, evIt, evIfs, evOr, itAny, itLst, lstOfR, lstOf, lcLoop, Itm.chk, wipeE, asgn, asgns, seqOf, toPart, bmTy, Bm.ty, tyOf, evIsi, bRes, kit_str_str, at0, at1, at2, i4, i5, i8, i9, i10, y0, pw30, notin, slc_4, slc_5, slc_a, slc_b, hd, n1, n2, n3, n5, n6, n7, e1, e2, c1, c2]
      · by_cases c3 : kk = 0
        · by_cases c4 : a9 = Str.ofString "each"
          · by_cases c5 : 0 ≤ k10
            · by_cases c6 : k10 ≤ T30
              · simp [F__law_read, runF, ps__law_read, N__law_read, s__law_read, exs, ex, ev, evs, evIt, evIfs, evOr, itAny, itLst, lstOfR, lstOf, lcLoop, Itm.chk, wipeE, asgn, asgns, seqOf, toPart, bmTy, Bm.ty, tyOf, evIsi, bRes, kit_str_str, at0, at1, at2, i4, i5, i8, i9, i10, y0, pw30, notin, slc_4, slc_5, slc_a, slc_b, hd, n1, n2, n3, n5, n6, n7, n10, e1, e2, c1, c2, hm, c3, c4, c5, c6]
              · simp [F__law_read, runF, ps__law_read, N__law_read, s__law_read, exs, ex, ev, evs, evIt, evIfs, evOr, itAny, itLst, lstOfR, lstOf, lcLoop, Itm.chk, wipeE, asgn, asgns, seqOf, toPart, bmTy, Bm.ty, tyOf, evIsi, bRes, kit_str_str, at0, at1, at2, i4, i5, i8, i9, i10, y0, pw30, notin, slc_4, slc_5, slc_a, slc_b, hd, n1, n2, n3, n5, n6, n7, n10, e1, e2, c1, c2, hm, c3, c4, c5, c6]
            · simp [F__law_read, runF, ps__law_read, N__law_read, s__law_read, exs, ex, ev, evs, evIt, evIfs, evOr, itAny, itLst, lstOfR, lstOf, lcLoop, Itm.chk, wipeE, asgn, asgns, seqOf, toPart, bmTy, Bm.ty, tyOf, evIsi, bRes, kit_str_str, at0, at1, at2, i4, i5, i8, i9, i10, y0, pw30, notin, slc_4, slc_5, slc_a, slc_b, hd, n1, n2, n3, n5, n6, n7, n10, e1, e2, c1, c2, hm, c3, c4, c5]
          · simp [F__law_read, runF, ps__law_read, N__law_read, s__law_read, exs, ex, ev, evs, evIt, evIfs, evOr, itAny, itLst, lstOfR, lstOf, lcLoop, Itm.chk, wipeE, asgn, asgns, seqOf, toPart, bmTy, Bm.ty, tyOf, evIsi, bRes, kit_str_str, at0, at1, at2, i4, i5, i8, i9, i10, y0, pw30, notin, slc_4, slc_5, slc_a, slc_b, hd, n1, n2, n3, n5, n6, n7, n10, e1, e2, c1, c2, hm, c3, c4]
        · simp [F__law_read, runF, ps__law_read, N__law_read, s__law_read, exs, ex, ev, evs, evIt, evIfs, evOr, itAny, itLst, lstOfR, lstOf, lcLoop, Itm.chk, wipeE, asgn, asgns, seqOf, toPart, bmTy, Bm.ty, tyOf, evIsi, bRes, kit_str_str, at0, at1, at2, i4, i5, i8, i9, i10, y0, pw30, notin, slc_4, slc_5, slc_a, slc_b, hd, n1, n2, n3, n5, n6, n7, e1, e2, c1, c2, hm, c3]
  · simp [F__law_read, runF, ps__law_read, N__law_read, s__law_read, exs, ex, ev, evs, evIt, evIfs, evOr, itAny, itLst, lstOfR, lstOf, lcLoop, Itm.chk, wipeE, asgn, asgns, seqOf, toPart, bmTy, Bm.ty, tyOf, evIsi, bRes, kit_str_str, at0, at1, at2, i4, i5, i8, i9, i10, y0, pw30, notin, hd]
end
end PQ
set_option Elab.async false
set_option linter.all false
set_option maxRecDepth 100000
set_option maxHeartbeats 4000000
namespace PQ
open PySem PySem.Spec L2 ME PG
/-- what the two readers make of a word -/
structure Wd (w : Str) (d : D) (k : Int) : Prop where
  rd : ∀ m, pureF F_read_number [.str w] m = .ok d m
  lr : ∀ m, pureF F__law_number [.str w] m = .ok (.int k) m
  ni : NI d
  ib : inb 1 T30 d = decide (1 ≤ k ∧ k ≤ T30)
  eq : 0 ≤ k → k ≤ T30 → d = .int k
  un : ¬ (0 ≤ k ∧ k ≤ T30) → d = .non ∨ ∃ n, d = .int n ∧ T30 < n
theorem wd_ex (w : Str) (hw : w.length ≤ 16777216) : ∃ d k, Wd w d k := by
  obtain ⟨d, k, a, b, g | ⟨g1, g2⟩⟩ := numW w hw
  · obtain ⟨rfl, g1, g2⟩ := g
    refine ⟨_, k, a, b, .inr ⟨k, rfl⟩, ?_, fun _ _ => rfl, fun h => absurd ⟨g1, g2⟩ h⟩
    show (decide (1 ≤ k) && decide (k ≤ T30)) = _
    rw [Bool.eq_iff_iff]; simp
  · have nk : ¬ (0 ≤ k ∧ k ≤ T30) := by rcases g2 with rfl | g2 <;> omega
    refine ⟨d, k, a, b, ?_, ?_, fun h1 h2 => absurd ⟨h1, h2⟩ nk, fun _ => g1⟩
    · rcases g1 with rfl | ⟨n, rfl, _⟩
      · exact .inl rfl
      · exact .inr ⟨n, rfl⟩
    · have : ¬ (1 ≤ k ∧ k ≤ T30) := by omega
      rw [decide_eq_false this]
      rcases g1 with rfl | ⟨n, rfl, hn⟩
      · rfl
      · show (decide (1 ≤ n) && decide (n ≤ T30)) = false
        have : ¬ (n ≤ T30) := by omega
        simp [this]
def mn6 (a b c d e f : Int) : Int := minL a [b, c, d, e, f]
def mx6 (a b c d e f : Int) : Int := maxL a [b, c, d, e, f]
theorem min6 {a b c d e f : Int} {m : Sto} : evBf .min1 [.lst [.int a, .int b, .int c, .int d, .int e, .int f]] m = .ok (.int (mn6 a b c d e f)) m := rfl
theorem max6 {a b c d e f : Int} {m : Sto} : evBf .max1 [.lst [.int a, .int b, .int c, .int d, .int e, .int f]] m = .ok (.int (mx6 a b c d e f)) m := rfl
theorem mn6_lt {a b c d e f : Int} : mn6 a b c d e f < 1 ↔ (a < 1 ∨ b < 1 ∨ c < 1 ∨ d < 1 ∨ e < 1 ∨ f < 1) := by
  simp only [mn6, minL, List.foldl]; omega
theorem mx6_gt {a b c d e f : Int} : T30 < mx6 a b c d e f ↔ (T30 < a ∨ T30 < b ∨ T30 < c ∨ T30 < d ∨ T30 < e ∨ T30 < f) := by
  simp only [mx6, maxL, List.foldl]; omega
theorem is_non {d : D} {m : Sto} (h : d = .non) : evCmp .Is d .non m = .ok (.bl true) m := by rw [h]; rfl
/-- both read the same -/
def Same (x : Str) : Prop := ((∀ m, pureF F_read_pair [.str x] m = .ok .non m) ∧ (∀ m, pureF F__law_read [.str x] m = .ok (.tup []) m)) ∨
  (∃ us uw un ls lw ln h, Mi us uw un ls lw ln h ∧ (∀ m, pureF F_read_pair [.str x] m = .ok (mine us uw un ls lw ln h) m) ∧ (∀ m, pureF F__law_read [.str x] m = .ok (mine us uw un ls lw ln h) m))
theorem same_none {x : Str} (a : F_read_pair [.str x] [] = .ok .non []) (b : F__law_read [.str x] [] = .ok (.tup []) []) : Same x :=
  .inl ⟨fun m => pure_ok rfl a rfl, fun m => pure_ok rfl b rfl⟩
theorem same_some {x : Str} {us uw un ls lw ln : Int} {h : D} (hm : Mi us uw un ls lw ln h) (a : F_read_pair [.str x] [] = .ok (mine us uw un ls lw ln h) []) (b : F__law_read [.str x] [] = .ok (mine us uw un ls lw ln h) []) : Same x := by
  have hc := mine_closed (us := us) (uw := uw) (un := un) (ls := ls) (lw := lw) (ln := ln) hm.hh
  simp only [D.closeds, Bool.and_true] at hc
  exact .inr ⟨us, uw, un, ls, lw, ln, h, hm, fun m => pure_ok rfl a hc, fun m => pure_ok rfl b hc⟩
theorem inb_all {d1 d2 d3 : D} {k1 k2 k3 : Int} {a1 a2 a3 : Str} (h1 : Wd a1 d1 k1) (h2 : Wd a2 d2 k2) (h3 : Wd a3 d3 k3) :
    (!(inb 1 T30 d1 && inb 1 T30 d2 && inb 1 T30 d3)) = !decide ((1 ≤ k1 ∧ k1 ≤ T30) ∧ (1 ≤ k2 ∧ k2 ≤ T30) ∧ (1 ≤ k3 ∧ k3 ≤ T30)) := by
  rw [h1.ib, h2.ib, h3.ib, Bool.eq_iff_iff]; simp; omega
theorem len_shape (l : List Str) : l.length < 10 ∨ (∃ a0 a1 a2 a3 a4 a5 a6 a7 a8 a9, l = [a0, a1, a2, a3, a4, a5, a6, a7, a8, a9]) ∨ (∃ a0 a1 a2 a3 a4 a5 a6 a7 a8 a9 a10, l = [a0, a1, a2, a3, a4, a5, a6, a7, a8, a9, a10]) ∨
    (∃ a0 a1 a2 a3 a4 a5 a6 a7 a8 a9 a10 a11 t, l = a0 :: a1 :: a2 :: a3 :: a4 :: a5 :: a6 :: a7 :: a8 :: a9 :: a10 :: a11 :: t) := by
  rcases l with _ | ⟨a0, _ | ⟨a1, _ | ⟨a2, _ | ⟨a3, _ | ⟨a4, _ | ⟨a5, _ | ⟨a6, _ | ⟨a7, _ | ⟨a8, _ | ⟨a9, _ | ⟨a10, _ | ⟨a11, t⟩⟩⟩⟩⟩⟩⟩⟩⟩⟩⟩⟩
  all_goals try (left; simp; done)
  · right; left; exact ⟨_, _, _, _, _, _, _, _, _, _, rfl⟩
  · right; right; left; exact ⟨_, _, _, _, _, _, _, _, _, _, _, rfl⟩
  · right; right; right; exact ⟨_, _, _, _, _, _, _, _, _, _, _, _, _, rfl⟩
theorem e_read {x : Str} (hx : Ok x 1000000) : Same x := by
  have y0 := fun m => bm_split (m := m) hx.len
  have wok := split_ok hx
  generalize Txt.split x " " = ws at *
  rcases len_shape ws with h | ⟨a0, a1, a2, a3, a4, a5, a6, a7, a8, a9, rfl⟩ | ⟨a0, a1, a2, a3, a4, a5, a6, a7, a8, a9, a10, rfl⟩ | ⟨a0, a1, a2, a3, a4, a5, a6, a7, a8, a9, a10, a11, t, rfl⟩
  · exact same_none (rp_few y0 (by simpa using h)) (lr_odd y0 (.inl (by simpa using h)))
  · have z : ∀ w ∈ [a0, a1, a2, a3, a4, a5, a6, a7, a8, a9], w.length ≤ 16777216 := fun w hw => by have := (wok w hw).len; omega
    obtain ⟨d1, k1, W1⟩ := wd_ex a1 (z a1 (by simp))
    obtain ⟨d2, k2, W2⟩ := wd_ex a2 (z a2 (by simp))
    obtain ⟨d3, k3, W3⟩ := wd_ex a3 (z a3 (by simp))
    obtain ⟨d5, k5, W5⟩ := wd_ex a5 (z a5 (by simp))
    obtain ⟨d6, k6, W6⟩ := wd_ex a6 (z a6 (by simp))
    obtain ⟨d7, k7, W7⟩ := wd_ex a7 (z a7 (by simp))
    have hd := fun m => head_ne (m := m) (wok a0 (by simp)).so (wok a4 (by simp)).so (wok a8 (by simp)).so
    have md : ∀ m, evBin .Mod (.int k7) (.int (if k3 > 1 then k3 else 1)) m = .ok (.int (k7 % (if k3 > 1 then k3 else 1))) m := fun m => mod_ok (by split <;> omega)
    have B := lr_ten (m := []) y0 hd W1.lr W2.lr W3.lr W5.lr W6.lr W7.lr (fun m => min6) (fun m => max6) md
    have A := rp_ten (m := []) y0 hd W1.rd W2.rd W3.rd W5.rd W6.rd W7.rd (fun m => rh_one) (hn := !mo2 a9) (fun m => by cases mo2 a9 <;> rfl) (fun m => wrong_any W1.ni W2.ni W3.ni) (fun m => wrong_any W5.ni W6.ni W7.ni) (fun m => ne_wl) (fun m => ne_wl)
      (k := k7 % (if k3 > 1 then k3 else 1)) (fun q1 q2 m => by
        rw [inb_all W1 W2 W3] at q1
        rw [inb_all W5 W6 W7] at q2
        simp only [Bool.not_eq_false', decide_eq_true_eq] at q1 q2
        rw [W7.eq (by omega) (by omega), W3.eq (by omega) (by omega)]
        rw [mod_ok (by omega)]
        congr 2
        split
        · rfl
        · congr 1; omega)
    rw [inb_all W1 W2 W3, inb_all W5 W6 W7] at A
    generalize (!(a0 == "upper" && (a4 == "lower" && a8 == "hears"))) = hne at *
    by_cases c : hne = false ∧ mo2 a9 = true ∧ ((1 ≤ k1 ∧ k1 ≤ T30) ∧ (1 ≤ k2 ∧ k2 ≤ T30) ∧ (1 ≤ k3 ∧ k3 ≤ T30)) ∧ ((1 ≤ k5 ∧ k5 ≤ T30) ∧ (1 ≤ k6 ∧ k6 ≤ T30) ∧ (1 ≤ k7 ∧ k7 ≤ T30)) ∧ k7 % (if k3 > 1 then k3 else 1) = 0
    · obtain ⟨c1, c2, c3, c4, c5⟩ := c
      rw [if_neg (by simp [c1, c2, c3, c4, c5])] at A
      rw [if_neg (by rw [c5, decide_eq_false (show ¬ mn6 k1 k2 k3 k5 k6 k7 < 1 by rw [mn6_lt]; omega), decide_eq_false (show ¬ T30 < mx6 k1 k2 k3 k5 k6 k7 by rw [mx6_gt]; omega)]; simp [c1]), if_pos c2] at B
      rw [W1.eq (by omega) (by omega), W2.eq (by omega) (by omega), W3.eq (by omega) (by omega), W5.eq (by omega) (by omega), W6.eq (by omega) (by omega), W7.eq (by omega) (by omega), if_pos c2] at A
      refine same_some ⟨c3.1, c3.2.1, c3.2.2, c4.1, c4.2.1, c4.2.2, ?_, ?_⟩ A B
      · rw [← c5]; split
        · rfl
        · congr 1; omega
      · unfold mo2 at c2
        rcases of_decide_eq_true c2 with rfl | rfl
        · exact .inl rfl
        · exact .inr (.inl rfl)
    · refine same_none (A.trans ?_) (B.trans ?_)
      · rw [if_pos]
        cases hne
        · cases q2 : mo2 a9
          · simp
          · simp only [q2, true_and] at c
            by_cases p1 : ((1 ≤ k1 ∧ k1 ≤ T30) ∧ (1 ≤ k2 ∧ k2 ≤ T30) ∧ (1 ≤ k3 ∧ k3 ≤ T30))
            · by_cases p2 : ((1 ≤ k5 ∧ k5 ≤ T30) ∧ (1 ≤ k6 ∧ k6 ≤ T30) ∧ (1 ≤ k7 ∧ k7 ≤ T30))
              · by_cases p3 : k7 % (if k3 > 1 then k3 else 1) = 0
                · exact absurd ⟨p1, p2, p3⟩ c
                · rw [decide_eq_false p3]; simp
              · rw [decide_eq_false p2]; simp
            · rw [decide_eq_false p1]; simp
        · simp
      · cases hne
        · cases q2 : mo2 a9
          · simp
          · simp only [q2, true_and] at c
            rw [if_pos]
            have hmn := @mn6_lt k1 k2 k3 k5 k6 k7
            have hmx := @mx6_gt k1 k2 k3 k5 k6 k7
            simp only [Bool.false_or, Bool.or_eq_true, decide_eq_true_eq, hmn, hmx, Bool.not_eq_true', decide_eq_false_iff_not]
            by_cases e : k7 % (if k3 > 1 then k3 else 1) = 0
            · have : ¬ (((1 ≤ k1 ∧ k1 ≤ T30) ∧ (1 ≤ k2 ∧ k2 ≤ T30) ∧ (1 ≤ k3 ∧ k3 ≤ T30)) ∧ ((1 ≤ k5 ∧ k5 ≤ T30) ∧ (1 ≤ k6 ∧ k6 ≤ T30) ∧ (1 ≤ k7 ∧ k7 ≤ T30))) := fun h => c ⟨h.1, h.2, e⟩
              omega
            · right; right; exact e
        · simp
  · have z : ∀ w ∈ [a0, a1, a2, a3, a4, a5, a6, a7, a8, a9, a10], w.length ≤ 16777216 := fun w hw => by have := (wok w hw).len; omega
    obtain ⟨d1, k1, W1⟩ := wd_ex a1 (z a1 (by simp))
    obtain ⟨d2, k2, W2⟩ := wd_ex a2 (z a2 (by simp))
    obtain ⟨d3, k3, W3⟩ := wd_ex a3 (z a3 (by simp))
    obtain ⟨d5, k5, W5⟩ := wd_ex a5 (z a5 (by simp))
    obtain ⟨d6, k6, W6⟩ := wd_ex a6 (z a6 (by simp))
    obtain ⟨d7, k7, W7⟩ := wd_ex a7 (z a7 (by simp))
    obtain ⟨d10, k10, W10⟩ := wd_ex a10 (z a10 (by simp))
    have hd := fun m => head_ne (m := m) (wok a0 (by simp)).so (wok a4 (by simp)).so (wok a8 (by simp)).so
    have md : ∀ m, evBin .Mod (.int k7) (.int (if k3 > 1 then k3 else 1)) m = .ok (.int (k7 % (if k3 > 1 then k3 else 1))) m := fun m => mod_ok (by split <;> omega)
    have hr : (hr2 a9 d10 = .non ∧ ¬ (a9 = Str.ofString "each" ∧ 0 ≤ k10 ∧ k10 ≤ T30)) ∨ (hr2 a9 d10 = .tup [.str "each", .int k10] ∧ (a9 = Str.ofString "each" ∧ 0 ≤ k10 ∧ k10 ≤ T30)) := by
      unfold hr2
      by_cases c : a9 = Str.ofString "each"
      · rw [if_pos c]
        by_cases g : 0 ≤ k10 ∧ k10 ≤ T30
        · right
          rw [W10.eq g.1 g.2]
          refine ⟨?_, c, g⟩
          dsimp only
          rw [if_neg (by omega)]
        · left
          refine ⟨?_, fun h => g h.2⟩
          rcases W10.un g with e | ⟨n, e, hn⟩
          · rw [e]
          · rw [e]; dsimp only; rw [if_pos hn]
      · left
        rw [if_neg c]
        exact ⟨rfl, fun h => c h.1⟩
    obtain ⟨pb, hpb⟩ : ∃ b : Bool, b = decide (a9 = Str.ofString "each" ∧ 0 ≤ k10 ∧ k10 ≤ T30) := ⟨_, rfl⟩
    have isn : ∀ m, evCmp .Is (hr2 a9 d10) .non m = .ok (.bl (!pb)) m := fun m => by
      rcases hr with ⟨e, q⟩ | ⟨e, q⟩
      · rw [e, hpb, decide_eq_false q]; rfl
      · rw [e, hpb, decide_eq_true q]; rfl
    have B := lr_el (m := []) y0 hd W1.lr W2.lr W3.lr W5.lr W6.lr W7.lr W10.lr (fun m => min6) (fun m => max6) md
    have A := rp_el (m := []) y0 hd W1.rd W2.rd W3.rd W5.rd W6.rd W7.rd (fun m => rh_two W10.rd W10.ni) isn (fun m => wrong_any W1.ni W2.ni W3.ni) (fun m => wrong_any W5.ni W6.ni W7.ni) (fun m => ne_wl) (fun m => ne_wl)
      (k := k7 % (if k3 > 1 then k3 else 1)) (fun q1 q2 m => by
        rw [inb_all W1 W2 W3] at q1
        rw [inb_all W5 W6 W7] at q2
        simp only [Bool.not_eq_false', decide_eq_true_eq] at q1 q2
        rw [W7.eq (by omega) (by omega), W3.eq (by omega) (by omega)]
        rw [mod_ok (by omega)]
        congr 2
        split
        · rfl
        · congr 1; omega)
    rw [inb_all W1 W2 W3, inb_all W5 W6 W7] at A
    generalize (!(a0 == "upper" && (a4 == "lower" && a8 == "hears"))) = hne at *
    by_cases c : hne = false ∧ pb = true ∧ ((1 ≤ k1 ∧ k1 ≤ T30) ∧ (1 ≤ k2 ∧ k2 ≤ T30) ∧ (1 ≤ k3 ∧ k3 ≤ T30)) ∧ ((1 ≤ k5 ∧ k5 ≤ T30) ∧ (1 ≤ k6 ∧ k6 ≤ T30) ∧ (1 ≤ k7 ∧ k7 ≤ T30)) ∧ k7 % (if k3 > 1 then k3 else 1) = 0
    · obtain ⟨c1, c2, c3, c4, c5⟩ := c
      have c2' := of_decide_eq_true (hpb.symm.trans c2)
      have e10 : hr2 a9 d10 = .tup [.str "each", .int k10] := by
        rcases hr with ⟨e, q⟩ | ⟨e, q⟩
        · exact absurd c2' q
        · exact e
      rw [if_neg (by simp [c1, c2, c3, c4, c5])] at A
      rw [if_neg (by rw [c5, decide_eq_false (show ¬ mn6 k1 k2 k3 k5 k6 k7 < 1 by rw [mn6_lt]; omega), decide_eq_false (show ¬ T30 < mx6 k1 k2 k3 k5 k6 k7 by rw [mx6_gt]; omega)]; simp [c1]), if_pos c2'] at B
      rw [W1.eq (by omega) (by omega), W2.eq (by omega) (by omega), W3.eq (by omega) (by omega), W5.eq (by omega) (by omega), W6.eq (by omega) (by omega), W7.eq (by omega) (by omega), e10] at A
      refine same_some ⟨c3.1, c3.2.1, c3.2.2, c4.1, c4.2.1, c4.2.2, ?_, ?_⟩ A B
      · rw [← c5]; split
        · rfl
        · congr 1; omega
      · exact .inr (.inr ⟨k10, rfl, c2'.2.1, c2'.2.2⟩)
    · refine same_none (A.trans ?_) (B.trans ?_)
      · rw [if_pos]
        cases hne
        · cases pb
          · simp
          · simp only [true_and] at c
            by_cases p1 : ((1 ≤ k1 ∧ k1 ≤ T30) ∧ (1 ≤ k2 ∧ k2 ≤ T30) ∧ (1 ≤ k3 ∧ k3 ≤ T30))
            · by_cases p2 : ((1 ≤ k5 ∧ k5 ≤ T30) ∧ (1 ≤ k6 ∧ k6 ≤ T30) ∧ (1 ≤ k7 ∧ k7 ≤ T30))
              · by_cases p3 : k7 % (if k3 > 1 then k3 else 1) = 0
                · exact absurd ⟨p1, p2, p3⟩ c
                · rw [decide_eq_false p3]; simp
              · rw [decide_eq_false p2]; simp
            · rw [decide_eq_false p1]; simp
        · simp
      · cases hne
        · cases pb
          · rw [if_neg (of_decide_eq_false hpb.symm)]; simp
          · simp only [true_and] at c
            rw [if_pos]
            have hmn := @mn6_lt k1 k2 k3 k5 k6 k7
            have hmx := @mx6_gt k1 k2 k3 k5 k6 k7
            simp only [Bool.false_or, Bool.or_eq_true, decide_eq_true_eq, hmn, hmx, Bool.not_eq_true', decide_eq_false_iff_not]
            by_cases e : k7 % (if k3 > 1 then k3 else 1) = 0
            · have : ¬ (((1 ≤ k1 ∧ k1 ≤ T30) ∧ (1 ≤ k2 ∧ k2 ≤ T30) ∧ (1 ≤ k3 ∧ k3 ≤ T30)) ∧ ((1 ≤ k5 ∧ k5 ≤ T30) ∧ (1 ≤ k6 ∧ k6 ≤ T30) ∧ (1 ≤ k7 ∧ k7 ≤ T30))) := fun h => c ⟨h.1, h.2, e⟩
              omega
            · right; right; exact e
        · simp
  · have z : ∀ w ∈ a0 :: a1 :: a2 :: a3 :: a4 :: a5 :: a6 :: a7 :: a8 :: a9 :: a10 :: a11 :: t, w.length ≤ 16777216 := fun w hw => by have := (wok w hw).len; omega
    obtain ⟨d1, k1, W1⟩ := wd_ex a1 (z a1 (by simp))
    obtain ⟨d2, k2, W2⟩ := wd_ex a2 (z a2 (by simp))
    obtain ⟨d3, k3, W3⟩ := wd_ex a3 (z a3 (by simp))
    obtain ⟨d5, k5, W5⟩ := wd_ex a5 (z a5 (by simp))
    obtain ⟨d6, k6, W6⟩ := wd_ex a6 (z a6 (by simp))
    obtain ⟨d7, k7, W7⟩ := wd_ex a7 (z a7 (by simp))
    have hd := fun m => head_ne (m := m) (wok a0 (by simp)).so (wok a4 (by simp)).so (wok a8 (by simp)).so
    have cl : ∀ l : List Str, D.closeds (l.map D.str) = true := by
      intro l; induction l with
      | nil => rfl
      | cons a l ih => simp [D.closeds, D.closed, ih]
    refine same_none (rp_more (t := t.map D.str) y0 hd (fun m => slc_nn (a := 1) (b := 4) (by omega) (by simp)) (fun m => slc_nn (a := 5) (b := 8) (by omega) (by simp)) (fun m => slc_n0 (a := 9)) W1.rd W2.rd W3.rd W5.rd W6.rd W7.rd (fun m => rh_many (by simpa [D.closeds, D.closed] using cl t))) (lr_odd y0 (.inr (by simp)))
end PQ
set_option Elab.async false
set_option linter.all false
set_option maxRecDepth 100000
set_option maxHeartbeats 4000000
namespace ME
open PySem PySem.Spec PyProof.Rows L2
/-! ### dicts by ints, told as lists of pairs -/
abbrev AL (α : Type) := List (Int × α)
def alGet {α : Type} (k : Int) : AL α → Option α
  | [] => none
  | p :: l => if p.1 = k then some p.2 else alGet k l
def alHas {α : Type} (k : Int) (l : AL α) : Bool := l.any fun p => decide (p.1 = k)
def alPut {α : Type} (k : Int) (v : α) (l : AL α) : AL α := if alHas k l = true then l.map (fun p => if p.1 = k then (p.1, v) else p) else l ++ [(k, v)]
def encK {α : Type} (l : AL α) : List Key := l.map fun p => .inl p.1
def encV {α : Type} (f : α → D) (l : AL α) : List D := l.map fun p => f p.2
section
variable {α : Type} {f : α → D} {k : Int} {v : α}
theorem look_enc : ∀ l : AL α, look (.inl k) (encK l) (encV f l) = (alGet k l).map f
  | [] => rfl
  | p :: l => by
    show (if (Sum.inl p.1 : Key) = .inl k then some (f p.2) else look (.inl k) (encK l) (encV f l)) = _
    rw [alGet, look_enc l]
    by_cases h : p.1 = k
    · rw [if_pos (by rw [h]), if_pos h]; rfl
    · rw [if_neg (by intro z; cases z; exact h rfl), if_neg h]
theorem any_enc (l : AL α) : ((encK l).any fun j => decide (j = .inl k)) = alHas k l := by
  unfold encK alHas
  rw [List.any_map]
  congr 1
  funext p
  show decide ((Sum.inl p.1 : Key) = .inl k) = decide (p.1 = k)
  by_cases h : p.1 = k
  · rw [h]; simp
  · have : ¬ ((Sum.inl p.1 : Key) = .inl k) := fun z => by cases z; exact h rfl
    simp [h, this]
theorem putKs_enc (l : AL α) : putKs (.inl k) (encK l) = encK (alPut k v l) := by
  unfold putKs alPut
  rw [any_enc]
  split
  · unfold encK
    rw [List.map_map]
    refine List.map_congr_left fun p _ => ?_
    show (Sum.inl p.1 : Key) = Sum.inl (if p.1 = k then (p.1, v) else p).1
    split <;> rfl
  · simp [encK]
theorem putDs_enc (l : AL α) : putDs (.inl k) (f v) (encK l) (encV f l) = encV f (alPut k v l) := by
  unfold putDs alPut
  rw [any_enc]
  split
  · unfold encK encV
    rw [List.map_map]
    rename_i hh; clear hh
    induction l with
    | nil => rfl
    | cons p l ih =>
      rw [List.map_cons, List.map_cons, List.zipWith_cons_cons, ih, List.map_cons]
      congr 1
      show (if (Sum.inl p.1 : Key) = .inl k then f v else f p.2) = f (if p.1 = k then (p.1, v) else p).2
      by_cases h : p.1 = k
      · rw [if_pos (by rw [h]), if_pos h]
      · rw [if_neg (by intro z; cases z; exact h rfl), if_neg h]
  · simp [encV]
theorem encK_length (l : AL α) : (encK l).length = l.length := by simp [encK]
theorem alPut_length (l : AL α) : (alPut k v l).length ≤ l.length + 1 := by
  unfold alPut
  split <;> simp
theorem alGet_isSome (l : AL α) : (alGet k l).isSome = alHas k l := by
  unfold alHas
  induction l with
  | nil => rfl
  | cons p l ih =>
    rw [alGet, List.any_cons]
    split
    · rename_i h; simp [h]
    · rename_i h; simp [h, ih]
theorem alGet_put_same (l : AL α) : alGet k (alPut k v l) = some v := by
  unfold alPut
  split
  · rename_i h
    unfold alHas at h
    induction l with
    | nil => cases h
    | cons p l ih =>
      rw [List.map_cons, alGet]
      by_cases hp : p.1 = k
      · simp [hp]
      · rw [if_neg hp, if_neg hp]
        exact ih (by simpa [hp] using h)
  · rename_i h
    unfold alHas at h
    induction l with
    | nil => simp [alGet]
    | cons p l ih =>
      have hp : ¬ p.1 = k := by
        intro z; simp [z] at h
      rw [List.cons_append, alGet, if_neg hp]
      exact ih (by simpa [hp] using h)
theorem alGet_put_other {j : Int} (h : j ≠ k) (l : AL α) : alGet j (alPut k v l) = alGet j l := by
  unfold alPut
  split
  · rename_i hh; clear hh
    induction l with
    | nil => rfl
    | cons p l ih =>
      rw [List.map_cons, alGet, alGet]
      by_cases hp : p.1 = k
      · rw [if_pos hp, ih]
        show (if p.1 = j then some v else _) = _
        rw [if_neg (by intro z; exact h (z.symm.trans hp)), if_neg (by intro z; exact h (z.symm.trans hp))]
      · rw [if_neg hp, ih]
  · rename_i hh; clear hh
    induction l with
    | nil => simp [alGet]; intro z; exact absurd z.symm h
    | cons p l ih =>
      rw [List.cons_append, alGet, alGet, ih]
end
/-! ### walks over made lists -/
theorem lc_go {α : Type} {chk : Sto → Bool} {ft : D → Sto → Res Env} {fb : Env → Sto → Res Bool} {fe : Env → Sto → Res D} {m : Sto} (hc : chk m = true) (enc : α → D) (p : α → Bool) (g : α → D) :
    ∀ (xs : List α) (acc : List D), (∀ x ∈ xs, ∃ e, ft (enc x) m = .ok e m ∧ fb e m = .ok (p x) m ∧ (p x = true → fe e m = .ok (g x) m)) → acc.length + xs.length ≤ 1000000 →
      lcLoop chk ft fb fe (xs.map enc) acc m = .ok (.lst (acc ++ (xs.filter p).map g)) m
  | [], acc, _, _ => by simp [lcLoop, hc]
  | x :: xs, acc, h, hl => by
    obtain ⟨e, h1, h2, h3⟩ := h x List.mem_cons_self
    rw [List.length_cons] at hl
    rw [List.map_cons, lcLoop, if_pos hc, h1]
    show ((fb e m).nox.bind fun b m2 => if b = true then (fe e m2).nox.bind fun v m3 => (if acc.length < 1000000 then lcLoop chk ft fb fe (xs.map enc) (acc ++ [v]) m3 else .stuck) else lcLoop chk ft fb fe (xs.map enc) acc m2) = _
    rw [h2]
    show (if p x = true then (fe e m).nox.bind fun v m3 => (if acc.length < 1000000 then lcLoop chk ft fb fe (xs.map enc) (acc ++ [v]) m3 else .stuck) else lcLoop chk ft fb fe (xs.map enc) acc m) = _
    by_cases hp : p x = true
    · rw [if_pos hp, h3 hp]
      show (if acc.length < 1000000 then lcLoop chk ft fb fe (xs.map enc) (acc ++ [g x]) m else .stuck) = _
      rw [if_pos (by omega), lc_go hc enc p g xs _ (fun y hy => h y (List.mem_cons_of_mem _ hy)) (by simp; omega), List.filter_cons_of_pos hp]
      simp
    · rw [if_neg hp, lc_go hc enc p g xs _ (fun y hy => h y (List.mem_cons_of_mem _ hy)) (by omega), List.filter_cons_of_neg hp]
theorem for_fold {α β : Type} {chk : Sto → Bool} {ft : D → Env → Sto → Res Env} {fb : Env → Sto → SRes} (enc : α → D) (f : β → α → β) (S : β → Env → Sto → Prop) (hc : ∀ b δ m, S b δ m → chk m = true) :
    ∀ (xs : List α) (b : β) (δ : Env) (m : Sto), S b δ m →
      (∀ x ∈ xs, ∀ b δ m, S b δ m → ∃ δ1 m1 δ2 m2, ft (enc x) δ m = .ok δ1 m1 ∧ fb δ1 m1 = .ok .nx δ2 m2 ∧ S (f b x) δ2 m2) →
      ∃ δ' m', forLoop chk ft fb (xs.map enc) δ m = .ok .nx δ' m' ∧ S (xs.foldl f b) δ' m'
  | [], b, δ, m, h, _ => ⟨δ, m, by rw [List.map_nil, forLoop, if_pos (hc b δ m h)], h⟩
  | x :: xs, b, δ, m, h, hs => by
    obtain ⟨δ1, m1, δ2, m2, h1, h2, h3⟩ := hs x List.mem_cons_self b δ m h
    obtain ⟨δ', m', h4, h5⟩ := for_fold enc f S hc xs (f b x) δ2 m2 h3 fun y hy => hs y (List.mem_cons_of_mem _ hy)
    refine ⟨δ', m', ?_, h5⟩
    rw [List.map_cons, forLoop, if_pos (hc b δ m h), h1]
    show (match fb δ1 m1 with
    | .ok .nx d2 m2 => forLoop chk ft fb (xs.map enc) d2 m2
    | .ok .ct d2 m2 => forLoop chk ft fb (xs.map enc) d2 m2
    | .ok .bk d2 m2 => .ok .nx d2 m2
    | r => r) = _
    rw [h2]
    exact h4
mutual
theorem D.same_refl : ∀ d : D, D.same d d = true
  | .non => rfl
  | .bl a => by rw [D.same]; simp
  | .int a => by rw [D.same]; simp
  | .str a => by rw [D.same]; simp
  | .tup ds => by rw [D.same]; exact D.sames_refl ds
  | .lst ds => by rw [D.same]; exact D.sames_refl ds
  | .rol ds => by rw [D.same]; exact D.sames_refl ds
  | .obj c ns fs => by rw [D.same, D.sames_refl fs]; simp
  | .dct ks fs => by rw [D.same, D.sames_refl fs]; simp
  | .ref n => by rw [D.same]; simp
theorem D.sames_refl : ∀ ds : List D, D.sames ds ds = true
  | [] => rfl
  | d :: ds => by rw [D.sames, D.same_refl d, D.sames_refl ds]; rfl
end
theorem lokB_ok {n : Nat} {ks : List Key} {es : List D} {m : Sto} (h : m[n]? = some (.lok ks es)) : lokB n ks es m = true := by
  unfold lokB; rw [h]; simp [D.sames_refl]
theorem asInts_map : ∀ l : List Int, asInts (l.map D.int) = some l
  | [] => rfl
  | i :: l => by rw [List.map_cons, asInts, asInts_map l]; rfl
/-! ### single steps -/
theorem ints_flat (l : List Int) : (l.map D.int).all D.flat = true := by simp [D.flat]
theorem mem_ints {m : Sto} {x : Int} {l : List Int} : memD m (.int x) (.lst (l.map D.int)) = some (decide (x ∈ l)) := by
  show (if (D.flat (.int x) && (l.map D.int).all D.flat) = true then some ((l.map D.int).any fun y => D.eqv y (.int x)) else _) = _
  rw [ints_flat]
  show some ((l.map D.int).any fun y => D.eqv y (.int x)) = _
  congr 1
  rw [List.any_map]
  induction l with
  | nil => simp
  | cons a l ih =>
    rw [List.any_cons, ih]
    show ((a == x) || decide (x ∈ l)) = _
    by_cases h : a = x
    · simp [h]
    · have : ¬ x = a := fun z => h z.symm
      simp [h, this]
theorem in_ints {m : Sto} {x : Int} {l : List Int} : evCmp .In (.int x) (.lst (l.map D.int)) m = .ok (.bl (decide (x ∈ l))) m := by
  show bRes m (memD m (.int x) (.lst (l.map D.int))) = _
  rw [mem_ints]; rfl
theorem notin_ints {m : Sto} {x : Int} {l : List Int} : evCmp .NotIn (.int x) (.lst (l.map D.int)) m = .ok (.bl (!decide (x ∈ l))) m := by
  show bRes m ((memD m (.int x) (.lst (l.map D.int))).map not) = _
  rw [mem_ints]; rfl
theorem put_ref {α : Type} {f : α → D} {m : Sto} {n : Nat} {l : AL α} {k : Int} {v : α} (h : m[n]? = some (.dct (encK l) (encV f l))) (hl : l.length < 1000000) :
    evPut (.ref n) (.int k) (f v) m = some (m.set n (.dct (encK (alPut k v l)) (encV f (alPut k v l)))) := by
  have e : cellD m n = some (encK l, encV f l) := by unfold cellD; rw [h]
  show (match cellD m n with
    | some (ks, es) => if ks.length < 1000000 then some (m.set n (.dct (putKs (.inl k) ks) (putDs (.inl k) (f v) ks es))) else none
    | none => none) = _
  rw [e]
  show (if (encK l).length < 1000000 then some (m.set n (.dct (putKs (.inl k) (encK l)) (putDs (.inl k) (f v) (encK l) (encV f l)))) else none) = _
  rw [if_pos (by rw [encK_length]; exact hl), putKs_enc (v := v), putDs_enc]
/-- the dict at n, locked or not -/
def DctAt {α : Type} (m : Sto) (n : Nat) (f : α → D) (l : AL α) : Prop := m[n]? = some (.dct (encK l) (encV f l)) ∨ m[n]? = some (.lok (encK l) (encV f l))
theorem DctAt.rd {α : Type} {m : Sto} {n : Nat} {f : α → D} {l : AL α} (h : DctAt m n f l) : dctR m (.ref n) = some (encK l, encV f l) := by
  show (match m[n]? with
    | some (.dct ks ds) => some (ks, ds)
    | some (.lok ks ds) => some (ks, ds)
    | _ => none) = _
  rcases h with h | h <;> rw [h]
theorem get_ref {α : Type} {f : α → D} {m : Sto} {n : Nat} {l : AL α} {k : Int} (h : DctAt m n f l) : evGet (.ref n) (.int k) m = ofO ((alGet k l).map f) m := by
  unfold evGet
  rw [h.rd]
  show (match look (.inl k) (encK l) (encV f l) with
      | some v => Res.ok v m
      | none => .stuck) = _
  rw [look_enc]
  cases (alGet k l).map f <;> rfl
theorem get2_ref {α : Type} {f : α → D} {m : Sto} {n : Nat} {l : AL α} {k : Int} {v : α} {d : D} (hd : d = f v) (h : DctAt m n f l) : evBm .get2 (.ref n) [.int k, d] m = .ok (f ((alGet k l).getD v)) m := by
  show (match dctR m (.ref n), asKey (.int k) with
    | some (ks, es), some k => Res.ok ((look k ks es).getD d) m
    | _, _ => .stuck) = _
  rw [h.rd]
  show Res.ok ((look (.inl k) (encK l) (encV f l)).getD d) m = _
  rw [look_enc, hd]
  cases alGet k l <;> rfl
theorem bmTy_dct {α : Type} {f : α → D} {l : AL α} {m : Sto} {n : Nat} {b : Bm} (hb : b.ty = "dict") (h : DctAt m n f l) : bmTy b (.ref n) m = true := by
  unfold bmTy
  rw [hb]
  show (dctR m (.ref n)).isSome = true
  rw [h.rd]; rfl
theorem fld_ref {m : Sto} {n : Nat} {c f : Str} {ns : List Str} {fs : List D} (h : m[n]? = some (.ins c ns fs)) : evFld c f (.ref n) m = ofO (fldOf f ns fs) m := by
  have e : insOf m (.ref n) = some (c, ns, fs) := by
    show (match m[n]? with
    | some (.ins c ns fs) => some (c, ns, fs)
    | _ => none) = _
    rw [h]
  unfold evFld
  rw [e]
  show (if c = c then _ else _) = _
  rw [if_pos rfl]
  cases fldOf f ns fs <;> rfl
theorem fld_obj {m : Sto} {c f : Str} {ns : List Str} {fs : List D} : evFld c f (.obj c ns fs) m = ofO (fldOf f ns fs) m := by
  show (if c = c then _ else _) = _
  rw [if_pos rfl]
  cases fldOf f ns fs <;> rfl
theorem insIs_ref {m : Sto} {n : Nat} {c f : Str} {ns : List Str} {fs : List D} (h : m[n]? = some (.ins c ns fs)) (hf : f ∉ ns) : insIs c f (.ref n) m = true := by
  have e : insOf m (.ref n) = some (c, ns, fs) := by
    show (match m[n]? with
    | some (.ins c ns fs) => some (c, ns, fs)
    | _ => none) = _
    rw [h]
  unfold insIs
  rw [e]
  simp [hf]
theorem insIs_obj {m : Sto} {c f : Str} {ns : List Str} {fs : List D} (hf : f ∉ ns) : insIs c f (.obj c ns fs) m = true := by
  show (decide (c = c) && decide (f ∉ ns)) = true
  simp [hf]
theorem att_ref {m : Sto} {n : Nat} {c f : Str} {ns : List Str} {fs : List D} {v : D} (h : m[n]? = some (.ins c ns fs)) (hl : ns.length < 900) : evAtt c f (.ref n) v m = some (m.set n (.ins c (putNs f ns) (putFs f v ns fs))) := by
  show (match m[n]? with
    | some (.ins c' ns fs) => if c' = c ∧ ns.length < 900 then some (m.set n (.ins c' (putNs f ns) (putFs f v ns fs))) else none
    | _ => none) = _
  rw [h]
  show (if c = c ∧ ns.length < 900 then _ else _) = _
  rw [if_pos ⟨rfl, hl⟩]
/-! ### cells behind a beginning -/
section
variable {α : Type} (pre l : List α)
theorem gp {i : Nat} : (pre ++ l)[pre.length + i]? = l[i]? := by rw [List.getElem?_append_right (by omega)]; congr 1; omega
theorem gp0 : (pre ++ l)[pre.length]? = l[0]? := by rw [List.getElem?_append_right (by omega)]; congr 1; omega
theorem sp {i : Nat} {x : α} : (pre ++ l).set (pre.length + i) x = pre ++ l.set i x := by rw [List.set_append_right _ _ (by omega)]; congr 2; omega
theorem sp0 {x : α} : (pre ++ l).set pre.length x = pre ++ l.set 0 x := by rw [List.set_append_right _ _ (by omega)]; congr 2; omega
end
end ME
set_option Elab.async false
set_option linter.all false
set_option maxRecDepth 100000
set_option maxHeartbeats 4000000
namespace ME
open PySem PySem.Spec PyProof.Rows L2
/-! ### the evaluator, form by form (comprehensions and loops apart) -/
section
variable {δ : Env} {m : Sto} {k : Nat}
def envGet (δ : Env) (i : Nat) (m : Sto) : Res D := match δ[i]? with
  | some (some v) => .ok v m
  | _ => .stuck
@[simp] theorem ev_var {i : Nat} : ev (.var i) δ m = envGet δ i m := by rw [ev]; rfl
theorem env_ok {i : Nat} {v : D} (h : δ[i]? = some (some v)) : envGet δ i m = .ok v m := by unfold envGet; rw [h]
@[simp] theorem env0 {v : D} : envGet (some v :: δ) 0 m = .ok v m := rfl
@[simp] theorem envS {o : Option D} {i : Nat} : envGet (o :: δ) (i + 1) m = envGet δ i m := by unfold envGet; rw [List.getElem?_cons_succ]
@[simp] theorem ev_int {i : Int} : ev (.int i) δ m = .ok (.int i) m := by rw [ev]
@[simp] theorem ev_str {x : Str} : ev (.str x) δ m = .ok (.str x) m := by rw [ev]
@[simp] theorem ev_bl {b : Bool} : ev (.bl b) δ m = .ok (.bl b) m := by rw [ev]
@[simp] theorem ev_non  : ev (.non) δ m = .ok .non m := by rw [ev]
@[simp] theorem ev_glo {x : Str} {v : D} : ev (.glo x v) δ m = .ok v m := by rw [ev]
@[simp] theorem ev_bin {op : Operator} {a b : Ex} : ev (.bin op a b) δ m = (ev a δ m).bind fun x m1 => (ev b δ m1).bind fun y m2 => evBin op x y m2 := by rw [ev]
def evNeg (x : D) (m : Sto) : Res D := match x with
  | .int i => .ok (.int (-i)) m
  | _ => .stuck
@[simp] theorem evNeg_int {i : Int} : evNeg (.int i) m = .ok (.int (-i)) m := rfl
@[simp] theorem ev_neg {a : Ex} : ev (.neg a) δ m = (ev a δ m).bind evNeg := by rw [ev]; rfl
@[simp] theorem ev_nt {a : Ex} : ev (.nt a) δ m = (ev a δ m).bind fun x m1 => (evTru x m1).bind fun b m2 => .ok (.bl (!b)) m2 := by rw [ev]
@[simp] theorem ev_and {es : Exs} : ev (.and es) δ m = evAnd es δ m := by rw [ev]
@[simp] theorem ev_or {es : Exs} : ev (.or es) δ m = evOr es δ m := by rw [ev]
@[simp] theorem ev_cmp {op : CmpOp} {a b : Ex} : ev (.cmp op a b) δ m = (ev a δ m).bind fun x m1 => (ev b δ m1).bind fun y m2 => evCmp op x y m2 := by rw [ev]
def chn2 (z : D) (m : Sto) (f : Sto → Res D) : Res D := match z with
  | .bl true => f m
  | .bl false => .ok (.bl false) m
  | _ => .stuck
@[simp] theorem chn2_t {f : Sto → Res D} : chn2 (.bl true) m f = f m := rfl
@[simp] theorem chn2_f {f : Sto → Res D} : chn2 (.bl false) m f = .ok (.bl false) m := rfl
theorem chn2_b {b : Bool} {f : Sto → Res D} : chn2 (.bl b) m f = if b = true then f m else .ok (.bl false) m := by cases b <;> rfl
@[simp] theorem ev_chn {o1 o2 : CmpOp} {a b c : Ex} : ev (.chn o1 o2 a b c) δ m = (ev a δ m).bind fun x m1 => (ev b δ m1).bind fun y m2 => (evCmp o1 x y m2).bind fun z m3 => chn2 z m3 fun m3 => (ev c δ m3).bind fun w m4 => evCmp o2 y w m4 := by rw [ev]; rfl
@[simp] theorem ev_ite {c a b : Ex} : ev (.ite c a b) δ m = (ev c δ m).bind fun x m1 => (evTru x m1).bind fun k m2 => if k = true then ev a δ m2 else ev b δ m2 := by rw [ev]
@[simp] theorem ev_tup {es : Exs} : ev (.tup es) δ m = (evs es δ m).bind fun vs m1 => if vs.length < 1000 then .ok (.tup vs) m1 else .stuck := by rw [ev]
@[simp] theorem ev_lst {es : Exs} : ev (.lst es) δ m = (evs es δ m).bind fun vs m1 => if vs.length < 1000 then .ok (.lst vs) m1 else .stuck := by rw [ev]
@[simp] theorem ev_lstM {es : Exs} : ev (.lstM es) δ m = (evs es δ m).bind fun vs m1 => if vs.length < 1000 then .ok (.ref m1.length) (m1 ++ [.lst vs]) else .stuck := by rw [ev]
@[simp] theorem ev_idx {a b : Ex} : ev (.idx a b) δ m = (ev a δ m).bind fun x m1 => (ev b δ m1).bind fun y m2 => evIdx x y m2 := by rw [ev]
@[simp] theorem ev_get {a b : Ex} : ev (.get a b) δ m = (ev a δ m).bind fun x m1 => (ev b δ m1).bind fun y m2 => evGet x y m2 := by rw [ev]
@[simp] theorem ev_slc {a : Ex} {lo hi : Exs} : ev (.slc a lo hi) δ m = (ev a δ m).bind fun x m1 => (evs lo δ m1).bind fun l m2 => toPart l fun u => (evs hi δ m2).bind fun h m3 => toPart h fun w => evSlc x u w m3 := by rw [ev]
@[simp] theorem toPart_nil {f : Option Int → Res D} : toPart [] f = f none := rfl
@[simp] theorem toPart_int {i : Int} {f : Option Int → Res D} : toPart [.int i] f = f (some i) := rfl
@[simp] theorem ev_rev {a : Ex} : ev (.rev a) δ m = (ev a δ m).bind evRev := by rw [ev]
@[simp] theorem ev_bf {b : Bf} {es : Exs} : ev (.bf b es) δ m = (evs es δ m).bind fun vs m1 => evBf b vs m1 := by rw [ev]
@[simp] theorem ev_isi {a : Ex} {t : Ty} {cs : List Str} : ev (.isi a t cs) δ m = (ev a δ m).bind fun x m1 => evIsi t cs x m1 := by rw [ev]
@[simp] theorem ev_bm {b : Bm} {o : Ex} {es : Exs} : ev (.bm b o es) δ m = (ev o δ m).bind fun x m1 => if bmTy b x m1 = true then (evs es δ m1).bind fun vs m2 => evBm b x vs m2 else .stuck := by rw [ev]
@[simp] theorem ev_callK {x : Str} {F : Fn} {ks : List Str} {perm : List Nat} {es : Exs} : ev (.callK x F ks perm es) δ m = (evs es δ m).bind fun vs m1 => if vs.length = ks.length then F (pick perm vs) m1 else .stuck := by rw [ev]
@[simp] theorem ev_call {x : Str} {F : Fn} {es : Exs} : ev (.call x F es) δ m = (evs es δ m).bind fun vs m1 => F vs m1 := by rw [ev]
@[simp] theorem ev_mth {c f : Str} {o : Ex} {F : Fn} {es : Exs} : ev (.mth c o f F es) δ m = (ev o δ m).bind fun x m1 => if insIs c f x m1 = true then (evs es δ m1).bind fun vs m2 => F (x :: vs) m2 else .stuck := by rw [ev]
@[simp] theorem ev_new {c : Str} {F : Fn} {es : Exs} : ev (.new c F es) δ m = (evs es δ m).bind fun vs m1 => evNew c F vs m1 := by rw [ev]
@[simp] theorem ev_fld {c f : Str} {o : Ex} : ev (.fld c o f) δ m = (ev o δ m).bind fun x m1 => evFld c f x m1 := by rw [ev]
@[simp] theorem ev_prp {c f : Str} {o : Ex} {F : Fn} : ev (.prp c o f F) δ m = (ev o δ m).bind fun x m1 => evMth c (Str.ofString "") F x [] m1 := by rw [ev]
@[simp] theorem ev_dctM  : ev (.dctM) δ m = .ok (.ref m.length) (m ++ [.dct [] []]) := by rw [ev]
@[simp] theorem ev_gen {G : Gn} {es : Exs} : ev (.gen G es) δ m = G.ev (evl es) δ m := by rw [ev]
@[simp] theorem evs0 : evs .nil δ m = .ok [] m := by rw [evs]
@[simp] theorem evs1 {e : Ex} {es : Exs} : evs (.cons e es) δ m = (ev e δ m).bind fun x m1 => (evs es δ m1).bind fun xs m2 => .ok (x :: xs) m2 := by rw [evs]
@[simp] theorem evAnd_one {e : Ex} : evAnd (.cons e .nil) δ m = ev e δ m := by rw [evAnd]
@[simp] theorem evAnd_two {e e2 : Ex} {es : Exs} : evAnd (.cons e (.cons e2 es)) δ m = (ev e δ m).bind fun x m1 => (evTru x m1).bind fun b m2 => if b = true then evAnd (.cons e2 es) δ m2 else .ok x m2 := by rw [evAnd]
@[simp] theorem evOr_one {e : Ex} : evOr (.cons e .nil) δ m = ev e δ m := by rw [evOr]
@[simp] theorem evOr_two {e e2 : Ex} {es : Exs} : evOr (.cons e (.cons e2 es)) δ m = (ev e δ m).bind fun x m1 => (evTru x m1).bind fun b m2 => if b = true then .ok x m2 else evOr (.cons e2 es) δ m2 := by rw [evOr]
@[simp] theorem evIfs_nil : evIfs .nil δ m = .ok true m := by rw [evIfs]
@[simp] theorem evIfs_one {e : Ex} : evIfs (.cons e .nil) δ m = (ev e δ m).bind fun x m1 => evTru x m1 := by rw [evIfs]
@[simp] theorem evL_evl' {es : Exs} : evL (evl es) δ m = evs es δ m := evL_evl es δ m
section
variable {v : D}
@[simp] theorem as_name {i : Nat} : asgn (.name i) v δ m = .ok (δ.set i (some v)) m := by rw [asgn]
def asT (ts : Tgts) (o : Option (List D)) (δ : Env) (m : Sto) : Res Env := match o with
  | some vs => asgns ts vs δ m
  | none => .stuck
@[simp] theorem asT_some {ts : Tgts} {vs : List D} : asT ts (some vs) δ m = asgns ts vs δ m := rfl
@[simp] theorem as_tup {ts : Tgts} : asgn (.tup ts) v δ m = asT ts (seqOf m v) δ m := by rw [asgn]; rfl
@[simp] theorem as_sub {o i : Ex} : asgn (.sub o i) v δ m = (ev o δ m).bind fun x m1 => (ev i δ m1).bind fun y m2 => optRes (evSub x y v m2) δ := by rw [asgn]
@[simp] theorem as_put {o i : Ex} : asgn (.put o i) v δ m = (ev o δ m).bind fun x m1 => (ev i δ m1).bind fun y m2 => optRes (evPut x y v m2) δ := by rw [asgn]
@[simp] theorem as_att {c f : Str} {o : Ex} : asgn (.att c o f) v δ m = (ev o δ m).bind fun x m1 => optRes (evAtt c f x v m1) δ := by rw [asgn]
@[simp] theorem ass_nil : asgns .nil [] δ m = .ok δ m := by rw [asgns]
@[simp] theorem ass_cons {t : Tgt} {ts : Tgts} {vs : List D} : asgns (.cons t ts) (v :: vs) δ m = (asgn t v δ m).bind fun d1 m1 => asgns ts vs d1 m1 := by rw [asgns]
@[simp] theorem seq_tup {ds : List D} : seqOf m (.tup ds) = some ds := rfl
@[simp] theorem seq_lst {ds : List D} : seqOf m (.lst ds) = some ds := rfl
end
@[simp] theorem ex_asg {t : Tgt} {e : Ex} : ex k (.asg t e) δ m = (ev e δ m).then δ fun v m1 => (asgn t v δ m1).nox.then δ fun d1 m2 => .ok .nx d1 m2 := by rw [ex]
@[simp] theorem ex_par2 {i j : Nat} {a b : Ex} : ex k (.par2 i j a b) δ m = (ev a δ m).then δ fun x m1 => (ev b δ m1).then δ fun y m2 => .ok .nx ((δ.set i (some x)).set j (some y)) m2 := by rw [ex]
@[simp] theorem ex_par3 {i j l : Nat} {a b c : Ex} : ex k (.par3 i j l a b c) δ m = (ev a δ m).then δ fun x m1 => (ev b δ m1).then δ fun y m2 => (ev c δ m2).then δ fun z m3 => .ok .nx (((δ.set i (some x)).set j (some y)).set l (some z)) m3 := by rw [ex]
@[simp] theorem ex_ret {e : Ex} : ex k (.ret e) δ m = (ev e δ m).then δ fun v m1 => .ok (.ret v) δ m1 := by rw [ex]
@[simp] theorem ex_retN  : ex k (.retN) δ m = .ok (.ret .non) δ m := by rw [ex]
@[simp] theorem ex_ite {c : Ex} {a b : List Sm} : ex k (.ite c a b) δ m = ((ev c δ m).bind evTru).then δ fun t m1 => if t = true then exs k a δ m1 else exs k b δ m1 := by rw [ex]
@[simp] theorem ex_exp {e : Ex} : ex k (.exp e) δ m = (ev e δ m).then δ fun _ m1 => .ok .nx δ m1 := by rw [ex]
@[simp] theorem ex_pass  : ex k (.pass) δ m = .ok .nx δ m := by rw [ex]
@[simp] theorem ex_brk  : ex k (.brk) δ m = .ok .bk δ m := by rw [ex]
@[simp] theorem ex_cnt  : ex k (.cnt) δ m = .ok .ct δ m := by rw [ex]
@[simp] theorem ex_doc  : ex k (.doc) δ m = .ok .nx δ m := by rw [ex]
@[simp] theorem exs_nil : exs k [] δ m = .ok .nx δ m := by rw [exs]
@[simp] theorem exs_cons {s : Sm} {ss : List Sm} : exs k (s :: ss) δ m = (ex k s δ m).thn fun d1 m1 => exs k ss d1 m1 := by rw [exs]
theorem ex_loop {t : Tgt} {it : ME.Itr} {body : List Sm} : ex k (.loop t it body) δ m = (evIt it δ m).then δ fun vs m1 => forLoop vs.chk (fun v d m => asgn t v d m) (fun d m => exs k body d m) vs.ds δ m1 := by rw [ex]
theorem ex_whl {c : Ex} {body : List Sm} : ex k (.whl c body) δ m = whLoop (fun d m => (ev c d m).bind evTru) (fun d m => exs k body d m) k δ m := by rw [ex]
theorem ex_loopD {c f : Str} {i : Nat} {kd : Bool} {t : Tgt} {body : List Sm} : ex k (.loopD c i f kd t body) δ m = evLoopD c i f kd (fun v d m => asgn t v d m) (fun d m => exs k body d m) δ m := by rw [ex]
theorem ev_lc {elt : Ex} {t : Tgt} {it : ME.Itr} {ifs : Exs} {own : List (Str × Nat)} : ev (.lc elt t it ifs own) δ m = (evIt it δ m).bind fun items m1 => lcLoop items.chk (fun v m => asgn t v (wipeE δ (own.map (·.2))) m) (fun e m => evIfs ifs e m) (fun e m => ev elt e m) items.ds [] m1 := by rw [ev]
theorem ev_lcM {elt : Ex} {t : Tgt} {it : ME.Itr} {ifs : Exs} {own : List (Str × Nat)} : ev (.lcM elt t it ifs own) δ m = (evIt it δ m).bind fun items m1 => lcLoopM items.chk (fun v m => asgn t v (wipeE δ (own.map (·.2))) m) (fun e m => evIfs ifs e m) (fun e m => ev elt e m) items.ds [] m1 := by rw [ev]
/-- a def's end -/
def fin (r : SRes) : Res D := match r with
  | .ok .nx _ m1 => .ok .non m1
  | .ok (.ret d) _ m1 => .ok d m1
  | .exc c es _ m1 => .exc c es m1
  | _ => .stuck
@[simp] theorem fin_nx : fin (.ok .nx δ m) = .ok .non m := rfl
@[simp] theorem fin_ret {d : D} : fin (.ok (.ret d) δ m) = .ok d m := rfl
@[simp] theorem fin_exc {c : Str} {es : List D} : fin (.exc c es δ m) = .exc c es m := rfl
@[simp] theorem runF_eq {np nN : Nat} {body : List Sm} {ds : List D} (h : ds.length = np) : runF k np nN body ds m = fin (exs k body (ds.map some ++ List.replicate (nN - np) none) m) := by unfold runF; rw [if_pos h]; rfl
@[simp] theorem ev_tupR_nat {a : Ex} {n : Int} {m1 : Sto} (h : ev a δ m = .ok (.int n) m1) (h0 : 0 ≤ n) (h1 : n ≤ 100000) : ev (.tupR a) δ m = .ok (.tup (rangeD 0 n.toNat)) m1 := by
  rw [ev]
  show (ev a δ m).bind _ = _
  rw [h]
  show (if 0 ≤ n ∧ n ≤ 100000 then Res.ok (D.tup (rangeD 0 n.toNat)) m1 else .stuck) = _
  rw [if_pos ⟨h0, h1⟩]
end
end ME
set_option Elab.async false
set_option linter.all false
set_option maxRecDepth 100000
set_option maxHeartbeats 4000000
namespace SH
open PySem L2 ME
/-! ### two shelves, natively -/
inductive Hr where
  | misses | moved | each (t : Int)
  deriving DecidableEq
structure Pr where
  us : Int
  uw : Int
  un : Int
  ls : Int
  lw : Int
  ln : Int
  hr : Hr
def Num (i : Int) : Prop := 1 ≤ i ∧ i ≤ 1000000000000000000000000000000
structure Pr.Ok (p : Pr) : Prop where
  n1 : Num p.us
  n2 : Num p.uw
  n3 : Num p.un
  n4 : Num p.ls
  n5 : Num p.lw
  n6 : Num p.ln
  dv : p.ln % p.un = 0
  hh : ∀ t, p.hr = .each t → 0 ≤ t ∧ t ≤ 1000000000000000000000000000000
structure Sh where
  tops : AL (List Int)
  lows : AL (List Int)
  heard : AL Int
  missed : AL Int
  newest : AL Int
  noted : Int
  gone : Int
def sh0 : Sh := ⟨[], [], [], [], [], 0, 0⟩
def rowOf (l : AL (List Int)) (k : Int) : List Int := (alGet k l).getD []
def hear (p : Pr) (low : Int) (s : Sh) : Sh :=
  let row := rowOf s.lows (low % p.ls)
  { s with lows := alPut (low % p.ls) ((if low ∈ row then row.filter (fun q => decide (q ≠ low)) else if (row.length : Int) = p.lw then row.drop 1 else row) ++ [low]) s.lows }
def heardHit (p : Pr) (low : Int) (s : Sh) : Bool := decide (low ∈ rowOf s.lows (low % p.ls))
def tells (p : Pr) (piece k : Int) (s : Sh) : Bool := match p.hr with
  | .misses => false
  | .moved => decide ((alGet k s.newest).getD 0 ≠ piece)
  | .each t => decide (t ≤ (alGet k s.missed).getD 0 - (alGet piece s.heard).getD 0)
def askHit (p : Pr) (place : Int) (s : Sh) : Sh :=
  let piece := place / p.un
  let k := piece % p.us
  let s1 := { s with tops := alPut k ((rowOf s.tops k).filter (fun q => decide (q ≠ piece)) ++ [piece]) s.tops, newest := alPut k piece s.newest }
  if tells p piece k s = true then
    let s2 := hear p (place / p.ln) s1
    { s2 with heard := alPut piece ((alGet k s2.missed).getD 0) s2.heard, noted := s2.noted + 1 }
  else s1
def askMiss (p : Pr) (place : Int) (s : Sh) : Sh :=
  let piece := place / p.un
  let k := piece % p.us
  let s1 := hear p (place / p.ln) { s with missed := alPut k ((alGet k s.missed).getD 0 + 1) s.missed, newest := alPut k piece s.newest }
  let row := rowOf s.tops k
  { s1 with heard := alPut piece ((alGet k s.missed).getD 0 + 1) s1.heard, tops := alPut k ((if (row.length : Int) = p.uw then row.drop 1 else row) ++ [piece]) s1.tops }
def isHit (p : Pr) (place : Int) (s : Sh) : Bool := decide (place / p.un ∈ rowOf s.tops (place / p.un % p.us))
def askN (p : Pr) (s : Sh) (place : Int) : Sh := if isHit p place s = true then askHit p place s else askMiss p place s
def told (p : Pr) (s : Sh) (place : Int) : Bool := isHit p place s && tells p (place / p.un) (place / p.un % p.us) s
def word (p : Pr) (s : Sh) (place : Int) : Str := if isHit p place s = true then "upper" else if heardHit p (place / p.ln) s = true then "lower" else "none"
def runN (p : Pr) (row : List Int) : Sh := row.foldl (askN p) sh0
/-- the piece is alone -/
def isLone (p : Pr) (s : Sh) (q : Int) : Bool := !decide (q * p.un / p.ln ∈ rowOf s.lows (q * p.un / p.ln % p.ls))
def lonelyL (p : Pr) (s : Sh) : List Int := s.tops.flatMap fun r => r.2.filter (isLone p s)
def sortI (l : List Int) : List Int := l.mergeSort (fun a b => decide (a ≤ b))
def lonely (p : Pr) (s : Sh) : List Int := sortI (lonelyL p s)
/-! ### as trees -/
def Hr.d : Hr → D
  | .misses => .str "misses"
  | .moved => .str "moved"
  | .each t => .tup [.str "each", .int t]
def lsD (l : List Int) : D := .lst (l.map D.int)
def Pr.up (p : Pr) : D := .tup [.int p.us, .int p.uw, .int p.un]
def Pr.lo (p : Pr) : D := .tup [.int p.ls, .int p.lw, .int p.ln]
def Pr.obj (p : Pr) : D := .obj "Pair" ["front", "back", "notes"] [p.up, p.lo, p.hr.d]
def Pr.mine (p : Pr) : D := .tup [p.up, p.lo, p.hr.d]
/-! ### what stays true of a run -/
structure RowsOk (w n : Int) (l : AL (List Int)) : Prop where
  keys : (l.map (·.1)).Nodup
  each : ∀ k row, (k, row) ∈ l → row.Nodup ∧ (row.length : Int) ≤ w ∧ ∀ q ∈ row, q % n = k
structure SInv (p : Pr) (s : Sh) : Prop where
  tops : RowsOk p.uw p.us s.tops
  lows : RowsOk p.lw p.ls s.lows
  known : ∀ k q, q ∈ rowOf s.tops k → alHas q s.heard = true ∧ alHas k s.newest = true ∧ alHas k s.missed = true
/-- sizes so far -/
structure Small (N : Nat) (s : Sh) : Prop where
  t : s.tops.length ≤ N
  l : s.lows.length ≤ N
  h : s.heard.length ≤ N
  m : s.missed.length ≤ N
  n : s.newest.length ≤ N
  tr : ∀ k row, (k, row) ∈ s.tops → row.length ≤ N
  lr : ∀ k row, (k, row) ∈ s.lows → row.length ≤ N
theorem alGet_mem {α : Type} {k : Int} {v : α} : ∀ {l : AL α}, alGet k l = some v → (k, v) ∈ l
  | [], h => by cases h
  | p :: l, h => by
    rw [alGet] at h
    split at h
    · rename_i hp
      cases h
      subst hp
      exact List.mem_cons_self
    · exact List.mem_cons_of_mem _ (alGet_mem h)
theorem mem_alPut {α : Type} {k : Int} {v : α} {l : AL α} {j : Int} {u : α} (h : (j, u) ∈ alPut k v l) : (j = k ∧ u = v) ∨ (j, u) ∈ l := by
  unfold alPut at h
  split at h
  · obtain ⟨q, hq, e⟩ := List.mem_map.mp h
    split at e
    · rename_i hk
      cases e
      exact .inl ⟨hk, rfl⟩
    · subst e; exact .inr hq
  · rcases List.mem_append.mp h with h | h
    · exact .inr h
    · cases List.mem_singleton.mp h
      exact .inl ⟨rfl, rfl⟩
theorem rowOf_mem {l : AL (List Int)} {k : Int} : rowOf l k = [] ∨ (k, rowOf l k) ∈ l := by
  unfold rowOf
  cases h : alGet k l with
  | none => exact .inl rfl
  | some r => exact .inr (alGet_mem h)
theorem alHas_mem {α : Type} {k : Int} {l : AL α} : alHas k l = true ↔ k ∈ l.map (·.1) := by
  unfold alHas
  simp
theorem keys_put {α : Type} {k : Int} {v : α} {l : AL α} (h : (l.map (·.1)).Nodup) : ((alPut k v l).map (·.1)).Nodup := by
  unfold alPut
  split
  · rw [List.map_map]
    have : ((fun x => x.1) ∘ fun p : Int × α => if p.1 = k then (p.1, v) else p) = fun p => p.1 := by
      funext p; simp only [Function.comp]; split <;> rfl
    rw [this]; exact h
  · rename_i hn
    rw [List.map_append, List.nodup_append]
    refine ⟨h, by simp, ?_⟩
    intro a ha b hb e
    simp at hb
    subst hb
    subst e
    exact hn (alHas_mem.mpr ha)
theorem RowsOk.put {w n k : Int} {l : AL (List Int)} {row : List Int} (h : RowsOk w n l) (h1 : row.Nodup) (h2 : (row.length : Int) ≤ w) (h3 : ∀ q ∈ row, q % n = k) : RowsOk w n (alPut k row l) :=
  ⟨keys_put h.keys, fun j r hr => by
    rcases mem_alPut hr with ⟨rfl, rfl⟩ | hr
    · exact ⟨h1, h2, h3⟩
    · exact h.each j r hr⟩
theorem RowsOk.row {w n k : Int} {l : AL (List Int)} (h : RowsOk w n l) (hw : 0 ≤ w) : (rowOf l k).Nodup ∧ ((rowOf l k).length : Int) ≤ w ∧ ∀ q ∈ rowOf l k, q % n = k := by
  rcases rowOf_mem (l := l) (k := k) with e | e
  · rw [e]; exact ⟨List.nodup_nil, by simpa using hw, by simp⟩
  · exact h.each _ _ e
/-- the row behind a piece that is heard of -/
def nextRow (w : Int) (row : List Int) (q : Int) : List Int := (if q ∈ row then row.filter (fun x => decide (x ≠ q)) else if (row.length : Int) = w then row.drop 1 else row) ++ [q]
theorem filter_len {row : List Int} {q : Int} (hq : q ∈ row) : (row.filter (fun x => decide (x ≠ q))).length < row.length := by
  refine Nat.lt_of_le_of_ne (List.length_filter_le _ _) fun e => ?_
  have := (List.length_filter_eq_length_iff.mp e) q hq
  simp at this
theorem nextRow_ok {w n k q : Int} {row : List Int} (hw : 1 ≤ w) (h1 : row.Nodup) (h2 : (row.length : Int) ≤ w) (h3 : ∀ x ∈ row, x % n = k) (hq : q % n = k) :
    (nextRow w row q).Nodup ∧ ((nextRow w row q).length : Int) ≤ w ∧ ∀ x ∈ nextRow w row q, x % n = k := by
  unfold nextRow
  split
  · rename_i hm
    have := filter_len hm
    refine ⟨?_, by simp only [List.length_append, List.length_singleton]; omega, fun x hx => ?_⟩
    · rw [List.nodup_append]
      refine ⟨h1.filter _, by simp, fun a ha b hb e => ?_⟩
      have := (List.mem_filter.mp ha).2
      simp at this hb
      exact this (e.trans hb)
    · rcases List.mem_append.mp hx with hx | hx
      · exact h3 x (List.mem_filter.mp hx).1
      · rw [List.mem_singleton.mp hx]; exact hq
  · rename_i hm
    split
    · rename_i hl
      refine ⟨?_, by simp only [List.length_append, List.length_singleton, List.length_drop]; omega, fun x hx => ?_⟩
      · rw [List.nodup_append]
        refine ⟨h1.sublist (List.drop_sublist _ _), by simp, fun a ha b hb e => ?_⟩
        simp at hb
        exact hm (by rw [← hb, ← e]; exact List.mem_of_mem_drop ha)
      · rcases List.mem_append.mp hx with hx | hx
        · exact h3 x (List.mem_of_mem_drop hx)
        · rw [List.mem_singleton.mp hx]; exact hq
    · rename_i hl
      refine ⟨?_, by simp only [List.length_append, List.length_singleton]; omega, fun x hx => ?_⟩
      · rw [List.nodup_append]
        refine ⟨h1, by simp, fun a ha b hb e => ?_⟩
        simp at hb
        exact hm (by rw [← hb, ← e]; exact ha)
      · rcases List.mem_append.mp hx with hx | hx
        · exact h3 x hx
        · rw [List.mem_singleton.mp hx]; exact hq
theorem nextRow_len {w q : Int} {row : List Int} : (nextRow w row q).length ≤ row.length + 1 := by
  unfold nextRow
  split
  · have := List.length_filter_le (fun x => decide (x ≠ q)) row
    simp only [List.length_append, List.length_singleton]; omega
  · split
    · simp only [List.length_append, List.length_singleton, List.length_drop]; omega
    · simp
theorem hear_eq {p : Pr} {low : Int} {s : Sh} : hear p low s = { s with lows := alPut (low % p.ls) (nextRow p.lw (rowOf s.lows (low % p.ls)) low) s.lows } := rfl
theorem hear_lows {p : Pr} (ok : p.Ok) {low : Int} {s : Sh} (h : RowsOk p.lw p.ls s.lows) : RowsOk p.lw p.ls (hear p low s).lows := by
  rw [hear_eq]
  have hw : 1 ≤ p.lw := ok.n5.1
  obtain ⟨h1, h2, h3⟩ := h.row (k := low % p.ls) (by omega)
  obtain ⟨q1, q2, q3⟩ := nextRow_ok (q := low) hw h1 h2 h3 rfl
  exact h.put q1 q2 q3
theorem alHas_put {α : Type} {k j : Int} {v : α} {l : AL α} : alHas j (alPut k v l) = (decide (j = k) || alHas j l) := by
  rw [← alGet_isSome, ← alGet_isSome]
  by_cases h : j = k
  · subst h; rw [alGet_put_same]; simp
  · rw [alGet_put_other h]; simp [h]
theorem rowOf_put_same {k : Int} {r : List Int} {l : AL (List Int)} : rowOf (alPut k r l) k = r := by unfold rowOf; rw [alGet_put_same]; rfl
theorem rowOf_put_other {j k : Int} {r : List Int} {l : AL (List Int)} (h : j ≠ k) : rowOf (alPut k r l) j = rowOf l j := by unfold rowOf; rw [alGet_put_other h]
theorem filt_in {row : List Int} {q : Int} {w : Int} (h : q ∈ row) : row.filter (fun x => decide (x ≠ q)) ++ [q] = nextRow w row q := by unfold nextRow; rw [if_pos h]
theorem drop_in {row : List Int} {q : Int} {w : Int} (h : q ∉ row) : (if (row.length : Int) = w then row.drop 1 else row) ++ [q] = nextRow w row q := by unfold nextRow; rw [if_neg h]
theorem nextRow_mem {w q x : Int} {row : List Int} (h : x ∈ nextRow w row q) : x = q ∨ x ∈ row := by
  unfold nextRow at h
  rcases List.mem_append.mp h with h | h
  · split at h
    · exact .inr (List.mem_filter.mp h).1
    · split at h
      · exact .inr (List.mem_of_mem_drop h)
      · exact .inr h
  · exact .inl (List.mem_singleton.mp h)
theorem ask_inv {p : Pr} (ok : p.Ok) {s : Sh} (h : SInv p s) (place : Int) : SInv p (askN p s place) := by
  have hu : 1 ≤ p.uw := ok.n2.1
  obtain ⟨t1, t2, t3⟩ := h.tops.row (k := place / p.un % p.us) (by omega)
  obtain ⟨q1, q2, q3⟩ := nextRow_ok (q := place / p.un) hu t1 t2 t3 rfl
  unfold askN isHit
  by_cases hm : place / p.un ∈ rowOf s.tops (place / p.un % p.us)
  · rw [if_pos (by simpa using hm)]
    obtain ⟨k1, k2, k3⟩ := h.known _ _ hm
    have ht : RowsOk p.uw p.us (alPut (place / p.un % p.us) ((rowOf s.tops (place / p.un % p.us)).filter (fun q => decide (q ≠ place / p.un)) ++ [place / p.un]) s.tops) := by
      rw [filt_in (w := p.uw) hm]; exact h.tops.put q1 q2 q3
    have kn : ∀ k q, q ∈ rowOf (alPut (place / p.un % p.us) ((rowOf s.tops (place / p.un % p.us)).filter (fun q => decide (q ≠ place / p.un)) ++ [place / p.un]) s.tops) k → alHas q s.heard = true ∧ alHas k (alPut (place / p.un % p.us) (place / p.un) s.newest) = true ∧ alHas k s.missed = true := by
      intro k q hq
      by_cases hk : k = place / p.un % p.us
      · subst hk
        rw [rowOf_put_same, filt_in (w := p.uw) hm] at hq
        rcases nextRow_mem hq with rfl | hq
        · exact ⟨k1, by rw [alHas_put]; simp, k3⟩
        · have := h.known _ _ hq
          exact ⟨this.1, by rw [alHas_put]; simp, k3⟩
      · rw [rowOf_put_other hk] at hq
        have := h.known _ _ hq
        exact ⟨this.1, by rw [alHas_put, this.2.1]; simp, this.2.2⟩
    unfold askHit
    dsimp only
    split
    · refine ⟨ht, hear_lows ok (s := { s with tops := _, newest := _ }) h.lows, fun k q hq => ?_⟩
      have := kn k q hq
      refine ⟨?_, this.2⟩
      rw [alHas_put]
      show (_ || alHas q s.heard) = true
      rw [this.1]; simp
    · exact ⟨ht, h.lows, kn⟩
  · rw [if_neg (by simpa using hm)]
    unfold askMiss
    dsimp only
    refine ⟨?_, hear_lows ok (s := { s with missed := _, newest := _ }) h.lows, fun k q hq => ?_⟩
    · show RowsOk p.uw p.us (alPut _ _ s.tops)
      rw [drop_in hm]; exact h.tops.put q1 q2 q3
    · have hq : q ∈ rowOf (alPut (place / p.un % p.us) ((if ((rowOf s.tops (place / p.un % p.us)).length : Int) = p.uw then (rowOf s.tops (place / p.un % p.us)).drop 1 else rowOf s.tops (place / p.un % p.us)) ++ [place / p.un]) s.tops) k := hq
      rw [drop_in hm] at hq
      show alHas q (alPut _ _ s.heard) = true ∧ alHas k (alPut _ _ s.newest) = true ∧ alHas k (alPut _ _ s.missed) = true
      rw [alHas_put, alHas_put, alHas_put]
      by_cases hk : k = place / p.un % p.us
      · subst hk
        rw [rowOf_put_same] at hq
        rcases nextRow_mem hq with rfl | hq
        · simp
        · have := h.known _ _ hq
          simp [this.1]
      · rw [rowOf_put_other hk] at hq
        have := h.known _ _ hq
        simp [this.1, this.2.1, this.2.2]
theorem sinv0 {p : Pr} : SInv p sh0 := ⟨⟨by simp [sh0], fun k r h => by cases h⟩, ⟨by simp [sh0], fun k r h => by cases h⟩, fun k q h => by simp [sh0, rowOf, alGet] at h⟩
theorem row_small {N : Nat} {l : AL (List Int)} (h : ∀ k row, (k, row) ∈ l → row.length ≤ N) (k : Int) : (rowOf l k).length ≤ N := by
  rcases rowOf_mem (l := l) (k := k) with e | e
  · rw [e]; simp
  · exact h _ _ e
theorem ask_small {p : Pr} {N : Nat} {s : Sh} (h : Small N s) (place : Int) : Small (N + 1) (askN p s place) := by
  have r1 := row_small h.tr (place / p.un % p.us)
  have r2 := row_small h.lr (place / p.ln % p.ls)
  have lp : ∀ {α : Type} {k : Int} {v : α} {l : AL α}, l.length ≤ N → (alPut k v l).length ≤ N + 1 := fun {α k v l} hl => Nat.le_trans (alPut_length l) (by omega)
  have rp : ∀ {k : Int} {r : List Int} {l : AL (List Int)}, r.length ≤ N + 1 → (∀ k row, (k, row) ∈ l → row.length ≤ N) → ∀ j row, (j, row) ∈ alPut k r l → row.length ≤ N + 1 := by
    intro k r l hr hl j row hj
    rcases mem_alPut hj with ⟨_, rfl⟩ | hj
    · exact hr
    · have := hl _ _ hj; omega
  have up : ∀ {l : AL (List Int)}, (∀ k row, (k, row) ∈ l → row.length ≤ N) → ∀ k row, (k, row) ∈ l → row.length ≤ N + 1 := fun hl k row hk => by have := hl k row hk; omega
  have hl2 := nextRow_len (w := p.lw) (q := place / p.ln) (row := rowOf s.lows (place / p.ln % p.ls))
  unfold askN isHit
  by_cases hm : place / p.un ∈ rowOf s.tops (place / p.un % p.us)
  · rw [if_pos (by simpa using hm)]
    have hl1 := nextRow_len (w := p.uw) (q := place / p.un) (row := rowOf s.tops (place / p.un % p.us))
    rw [← filt_in hm] at hl1
    unfold askHit
    dsimp only
    split
    · rw [hear_eq]
      exact ⟨lp h.t, lp h.l, lp h.h, by have := h.m; show s.missed.length ≤ N + 1; omega, lp h.n, rp (by omega) h.tr, rp (by show (nextRow p.lw (rowOf s.lows (place / p.ln % p.ls)) (place / p.ln)).length ≤ N + 1; omega) h.lr⟩
    · exact ⟨lp h.t, by have := h.l; show s.lows.length ≤ N + 1; omega, by have := h.h; show s.heard.length ≤ N + 1; omega, by have := h.m; show s.missed.length ≤ N + 1; omega, lp h.n, rp (by omega) h.tr, up h.lr⟩
  · rw [if_neg (by simpa using hm)]
    have hl1 := nextRow_len (w := p.uw) (q := place / p.un) (row := rowOf s.tops (place / p.un % p.us))
    rw [← drop_in hm] at hl1
    unfold askMiss
    dsimp only
    rw [hear_eq]
    exact ⟨lp h.t, lp h.l, lp h.h, lp h.m, lp h.n, rp (by omega) h.tr, rp (by show (nextRow p.lw (rowOf s.lows (place / p.ln % p.ls)) (place / p.ln)).length ≤ N + 1; omega) h.lr⟩
theorem small0 : Small 0 sh0 := ⟨Nat.le_refl _, Nat.le_refl _, Nat.le_refl _, Nat.le_refl _, Nat.le_refl _, (fun _ _ h => nomatch h), (fun _ _ h => nomatch h)⟩
theorem run_inv {p : Pr} (ok : p.Ok) : ∀ (row : List Int) {s : Sh}, SInv p s → SInv p (row.foldl (askN p) s)
  | [], s, h => h
  | x :: row, s, h => run_inv ok row (ask_inv ok h x)
theorem run_small {p : Pr} : ∀ (row : List Int) {s : Sh} {N : Nat}, Small N s → Small (N + row.length) (row.foldl (askN p) s)
  | [], s, N, h => h
  | x :: row, s, N, h => by
    have := run_small (p := p) row (ask_small (p := p) h x)
    rw [List.length_cons, show N + (row.length + 1) = N + 1 + row.length by omega]
    exact this
end SH
set_option Elab.async false
set_option linter.all false
set_option maxRecDepth 100000
set_option maxHeartbeats 4000000
namespace PG
open PySem PySem.Spec L2 ME SH
/-! ### lists of ints -/
section
variable {m : Sto} {x : Int} {l : List Int} {δ : ME.Env}
theorem ls_in : evCmp .In (.int x) (lsD l) m = .ok (.bl (decide (x ∈ l))) m := in_ints
theorem ls_notin : evCmp .NotIn (.int x) (lsD l) m = .ok (.bl (!decide (x ∈ l))) m := notin_ints
theorem ls_len : evBf .len [lsD l] m = .ok (.int l.length) m := by simp [lsD]
theorem ls_idx0 (h : l ≠ []) : evIdx (lsD l) (.int 0) m = .ok (.int (l.headD 0)) m := by
  cases l with
  | nil => exact absurd rfl h
  | cons a l => simp [lsD, at0]
theorem ls_slc1 : evSlc (lsD l) (some 1) none m = .ok (lsD (l.drop 1)) m := by
  show Res.ok (D.lst (cutG (l.map D.int) (some 1) none)) m = _
  unfold lsD cutG
  rw [List.map_drop]
  cases l with
  | nil => rfl
  | cons a l =>
    have h1 : HT.sIx ((a :: l).map D.int).length 0 (some 1) = 1 := by simp [HT.sIx]
    have h2 : HT.sIx ((a :: l).map D.int).length ((a :: l).map D.int).length none = (a :: l).length := by simp [HT.sIx]
    rw [h1, h2, List.take_of_length_le (by simp)]
theorem ls_add {b : List Int} (h : l.length + b.length ≤ 16777216) : evBin .Add (lsD l) (lsD b) m = .ok (lsD (l ++ b)) m := by
  unfold lsD
  rw [add_ll, if_pos (by simpa using h), List.map_append]
theorem ls_one : D.lst [D.int x] = lsD [x] := rfl
theorem ls_nil : D.lst [] = lsD [] := rfl
theorem ls_filterE {i k : Nat} {e : Ex} {nm : Str} (he : ev e δ m = .ok (lsD l) m) (hi : i < δ.length) (hk : δ[k]? = some (some (.int x))) (hik : i ≠ k) (hl : l.length ≤ 1000000) :
    ev (.lc (.var i) (.name i) (.lst e) (.cons (.cmp .NotEq (.var i) (.var k)) .nil) [(nm, i)]) δ m = .ok (lsD (l.filter fun q => decide (q ≠ x))) m := by
  have e1 : ev (.lc (.var i) (.name i) (.lst e) (.cons (.cmp .NotEq (.var i) (.var k)) .nil) [(nm, i)]) δ m = lcLoop (Itm.chk ⟨l.map D.int, none⟩) (fun v m => asgn (.name i) v (wipeE δ [i]) m) (fun e m => evIfs (.cons (.cmp .NotEq (.var i) (.var k)) .nil) e m) (fun e m => ev (.var i) e m) (l.map D.int) [] m := by
    rw [ev]
    show (evIt (.lst e) δ m).bind _ = _
    rw [evIt]
    show ((ev e δ m).bind itAny).bind _ = _
    rw [he]; rfl
  rw [e1, lc_go (chk := Itm.chk ⟨l.map D.int, none⟩) rfl D.int (fun q => decide (q ≠ x)) D.int l [] (fun q _ => ⟨(wipeE δ [i]).set i (some (.int q)), ?_, ?_, ?_⟩) (by simpa using hl)]
  · simp [lsD]
  · rw [asgn]
  · have w : (wipeE δ [i]).set i (some (.int q)) = δ.set i (some (.int q)) := by simp [wipeE]
    rw [w]
    have h1 : (δ.set i (some (D.int q)))[i]? = some (some (.int q)) := by rw [List.getElem?_set_self hi]
    have h2 : (δ.set i (some (D.int q)))[k]? = some (some (.int x)) := by rw [List.getElem?_set_ne hik]; exact hk
    simp [env_ok h1, env_ok h2]
    by_cases hq : q = x <;> simp [hq]
  · intro _
    have w : (wipeE δ [i]).set i (some (.int q)) = δ.set i (some (.int q)) := by simp [wipeE]
    rw [w]
    simp [env_ok (List.getElem?_set_self hi)]
theorem ls_filter {i j k : Nat} {nm : Str} (hi : i < δ.length) (hj : δ[j]? = some (some (lsD l))) (hk : δ[k]? = some (some (.int x))) (hik : i ≠ k) (hl : l.length ≤ 1000000) :
    ev (.lc (.var i) (.name i) (.lst (.var j)) (.cons (.cmp .NotEq (.var i) (.var k)) .nil) [(nm, i)]) δ m = .ok (lsD (l.filter fun q => decide (q ≠ x))) m :=
  ls_filterE (by rw [ev_var, env_ok hj]) hi hk hik hl
end
/-! ### a pair -/
section
variable {p : Pr} {m : Sto}
theorem pr_top : evMth "Pair" (Str.ofString "") (noxF F_Pair_top) p.obj [] m = .ok p.up m := by kernel_rfl
theorem pr_bot : evMth "Pair" (Str.ofString "") (noxF F_Pair_bottom) p.obj [] m = .ok p.lo m := by kernel_rfl
theorem pr_hears : evMth "Pair" (Str.ofString "") (noxF F_Pair_hears) p.obj [] m = .ok p.hr.d m := by kernel_rfl
theorem up0 : evIdx p.up (.int 0) m = .ok (.int p.us) m := by kernel_rfl
theorem up1 : evIdx p.up (.int 1) m = .ok (.int p.uw) m := by kernel_rfl
theorem up2 : evIdx p.up (.int 2) m = .ok (.int p.un) m := by kernel_rfl
theorem lo0 : evIdx p.lo (.int 0) m = .ok (.int p.ls) m := by kernel_rfl
theorem lo1 : evIdx p.lo (.int 1) m = .ok (.int p.lw) m := by kernel_rfl
theorem lo2 : evIdx p.lo (.int 2) m = .ok (.int p.ln) m := by kernel_rfl
theorem up_seq : seqOf m p.up = some [.int p.us, .int p.uw, .int p.un] := rfl
theorem lo_seq : seqOf m p.lo = some [.int p.ls, .int p.lw, .int p.ln] := rfl
end
/-! ### the cells of a run -/
def nsR : List Str := ["duo", "takes_back", "tops", "lows", "heard", "missed", "newest", "noted", "gone"]
def runC (p : Pr) (tb : Bool) (o : Nat) (s : Sh) (rest : Sto) : Sto :=
  .ins "Run" nsR [p.obj, .bl tb, .ref (o + 1), .ref (o + 2), .ref (o + 3), .ref (o + 4), .ref (o + 5), .int s.noted, .int s.gone] ::
  .dct (encK s.tops) (encV lsD s.tops) :: .dct (encK s.lows) (encV lsD s.lows) :: .dct (encK s.heard) (encV D.int s.heard) :: .dct (encK s.missed) (encV D.int s.missed) :: .dct (encK s.newest) (encV D.int s.newest) :: rest
section
variable {p : Pr} {tb : Bool} {s : Sh} {pre rest : Sto} {k : Int} {v : List Int} {i : Int}
theorem rc0 : (pre ++ runC p tb pre.length s rest)[pre.length]? = some (.ins "Run" nsR [p.obj, .bl tb, .ref (pre.length + 1), .ref (pre.length + 2), .ref (pre.length + 3), .ref (pre.length + 4), .ref (pre.length + 5), .int s.noted, .int s.gone]) := by rw [gp0]; rfl
theorem rc1 : (pre ++ runC p tb pre.length s rest)[pre.length + 1]? = some (.dct (encK s.tops) (encV lsD s.tops)) := by rw [gp]; rfl
theorem rc2 : (pre ++ runC p tb pre.length s rest)[pre.length + 2]? = some (.dct (encK s.lows) (encV lsD s.lows)) := by rw [gp]; rfl
theorem rc3 : (pre ++ runC p tb pre.length s rest)[pre.length + 3]? = some (.dct (encK s.heard) (encV D.int s.heard)) := by rw [gp]; rfl
theorem rc4 : (pre ++ runC p tb pre.length s rest)[pre.length + 4]? = some (.dct (encK s.missed) (encV D.int s.missed)) := by rw [gp]; rfl
theorem rc5 : (pre ++ runC p tb pre.length s rest)[pre.length + 5]? = some (.dct (encK s.newest) (encV D.int s.newest)) := by rw [gp]; rfl
theorem rf_duo : evFld "Run" "duo" (.ref pre.length) (pre ++ runC p tb pre.length s rest) = .ok p.obj (pre ++ runC p tb pre.length s rest) := by rw [fld_ref rc0]; kernel_rfl
theorem rf_tb : evFld "Run" "takes_back" (.ref pre.length) (pre ++ runC p tb pre.length s rest) = .ok (.bl tb) (pre ++ runC p tb pre.length s rest) := by rw [fld_ref rc0]; kernel_rfl
theorem rf_tops : evFld "Run" "tops" (.ref pre.length) (pre ++ runC p tb pre.length s rest) = .ok (.ref (pre.length + 1)) (pre ++ runC p tb pre.length s rest) := by rw [fld_ref rc0]; kernel_rfl
theorem rf_lows : evFld "Run" "lows" (.ref pre.length) (pre ++ runC p tb pre.length s rest) = .ok (.ref (pre.length + 2)) (pre ++ runC p tb pre.length s rest) := by rw [fld_ref rc0]; kernel_rfl
theorem rf_heard : evFld "Run" "heard" (.ref pre.length) (pre ++ runC p tb pre.length s rest) = .ok (.ref (pre.length + 3)) (pre ++ runC p tb pre.length s rest) := by rw [fld_ref rc0]; kernel_rfl
theorem rf_missed : evFld "Run" "missed" (.ref pre.length) (pre ++ runC p tb pre.length s rest) = .ok (.ref (pre.length + 4)) (pre ++ runC p tb pre.length s rest) := by rw [fld_ref rc0]; kernel_rfl
theorem rf_newest : evFld "Run" "newest" (.ref pre.length) (pre ++ runC p tb pre.length s rest) = .ok (.ref (pre.length + 5)) (pre ++ runC p tb pre.length s rest) := by rw [fld_ref rc0]; kernel_rfl
theorem rf_noted : evFld "Run" "noted" (.ref pre.length) (pre ++ runC p tb pre.length s rest) = .ok (.int s.noted) (pre ++ runC p tb pre.length s rest) := by rw [fld_ref rc0]; kernel_rfl
theorem rf_gone : evFld "Run" "gone" (.ref pre.length) (pre ++ runC p tb pre.length s rest) = .ok (.int s.gone) (pre ++ runC p tb pre.length s rest) := by rw [fld_ref rc0]; kernel_rfl
theorem ri_tells : insIs "Run" "tells" (.ref pre.length) (pre ++ runC p tb pre.length s rest) = true := insIs_ref rc0 (by decide +kernel)
theorem ri_hear : insIs "Run" "hear" (.ref pre.length) (pre ++ runC p tb pre.length s rest) = true := insIs_ref rc0 (by decide +kernel)
theorem ri_keeps : insIs "Run" "keeps" (.ref pre.length) (pre ++ runC p tb pre.length s rest) = true := insIs_ref rc0 (by decide +kernel)
theorem ri_ask : insIs "Run" "ask" (.ref pre.length) (pre ++ runC p tb pre.length s rest) = true := insIs_ref rc0 (by decide +kernel)
theorem ri_lonely : insIs "Run" "lonely" (.ref pre.length) (pre ++ runC p tb pre.length s rest) = true := insIs_ref rc0 (by decide +kernel)
theorem ri_below : insIs "Run" "below" (.ref pre.length) (pre ++ runC p tb pre.length s rest) = true := insIs_ref rc0 (by decide +kernel)
theorem ri_tb : insIs "Run" "take_back" (.ref pre.length) (pre ++ runC p tb pre.length s rest) = true := insIs_ref rc0 (by decide +kernel)
theorem ty1 : bmTy .get2 (.ref (pre.length + 1)) (pre ++ runC p tb pre.length s rest) = true := bmTy_dct rfl (.inl rc1)
theorem ty2 : bmTy .get2 (.ref (pre.length + 2)) (pre ++ runC p tb pre.length s rest) = true := bmTy_dct rfl (.inl rc2)
theorem ty4 : bmTy .get2 (.ref (pre.length + 4)) (pre ++ runC p tb pre.length s rest) = true := bmTy_dct rfl (.inl rc4)
theorem rg_tops : evBm .get2 (.ref (pre.length + 1)) [.int k, lsD []] (pre ++ runC p tb pre.length s rest) = .ok (lsD (rowOf s.tops k)) (pre ++ runC p tb pre.length s rest) := get2_ref (v := []) rfl (.inl rc1)
theorem rg_lows : evBm .get2 (.ref (pre.length + 2)) [.int k, lsD []] (pre ++ runC p tb pre.length s rest) = .ok (lsD (rowOf s.lows k)) (pre ++ runC p tb pre.length s rest) := get2_ref (v := []) rfl (.inl rc2)
theorem rg_missed : evBm .get2 (.ref (pre.length + 4)) [.int k, .int 0] (pre ++ runC p tb pre.length s rest) = .ok (.int ((alGet k s.missed).getD 0)) (pre ++ runC p tb pre.length s rest) := get2_ref (v := 0) rfl (.inl rc4)
theorem ofO_has {α : Type} {f : α → D} {l : AL α} {d : α} {m : Sto} (h : alHas k l = true) : ofO ((alGet k l).map f) m = .ok (f ((alGet k l).getD d)) m := by
  rw [← alGet_isSome] at h
  obtain ⟨v, hv⟩ := Option.isSome_iff_exists.mp h
  rw [hv]; rfl
theorem rd_tops (h : alHas k s.tops = true) : evGet (.ref (pre.length + 1)) (.int k) (pre ++ runC p tb pre.length s rest) = .ok (lsD (rowOf s.tops k)) (pre ++ runC p tb pre.length s rest) := by rw [get_ref (.inl rc1), ofO_has h (d := [])]; rfl
theorem rd_heard (h : alHas k s.heard = true) : evGet (.ref (pre.length + 3)) (.int k) (pre ++ runC p tb pre.length s rest) = .ok (.int ((alGet k s.heard).getD 0)) (pre ++ runC p tb pre.length s rest) := by rw [get_ref (.inl rc3), ofO_has h]
theorem rd_missed (h : alHas k s.missed = true) : evGet (.ref (pre.length + 4)) (.int k) (pre ++ runC p tb pre.length s rest) = .ok (.int ((alGet k s.missed).getD 0)) (pre ++ runC p tb pre.length s rest) := by rw [get_ref (.inl rc4), ofO_has h]
theorem rd_newest (h : alHas k s.newest = true) : evGet (.ref (pre.length + 5)) (.int k) (pre ++ runC p tb pre.length s rest) = .ok (.int ((alGet k s.newest).getD 0)) (pre ++ runC p tb pre.length s rest) := by rw [get_ref (.inl rc5), ofO_has h]
theorem rp_tops (h : s.tops.length < 1000000) : evPut (.ref (pre.length + 1)) (.int k) (lsD v) (pre ++ runC p tb pre.length s rest) = some (pre ++ runC p tb pre.length { s with tops := alPut k v s.tops } rest) := by rw [put_ref rc1 h, sp]; rfl
theorem rp_lows (h : s.lows.length < 1000000) : evPut (.ref (pre.length + 2)) (.int k) (lsD v) (pre ++ runC p tb pre.length s rest) = some (pre ++ runC p tb pre.length { s with lows := alPut k v s.lows } rest) := by rw [put_ref rc2 h, sp]; rfl
theorem rp_heard (h : s.heard.length < 1000000) : evPut (.ref (pre.length + 3)) (.int k) (.int i) (pre ++ runC p tb pre.length s rest) = some (pre ++ runC p tb pre.length { s with heard := alPut k i s.heard } rest) := by rw [put_ref rc3 h, sp]; rfl
theorem rp_missed (h : s.missed.length < 1000000) : evPut (.ref (pre.length + 4)) (.int k) (.int i) (pre ++ runC p tb pre.length s rest) = some (pre ++ runC p tb pre.length { s with missed := alPut k i s.missed } rest) := by rw [put_ref rc4 h, sp]; rfl
theorem rp_newest (h : s.newest.length < 1000000) : evPut (.ref (pre.length + 5)) (.int k) (.int i) (pre ++ runC p tb pre.length s rest) = some (pre ++ runC p tb pre.length { s with newest := alPut k i s.newest } rest) := by rw [put_ref rc5 h, sp]; rfl
theorem ra_noted : evAtt "Run" "noted" (.ref pre.length) (.int i) (pre ++ runC p tb pre.length s rest) = some (pre ++ runC p tb pre.length { s with noted := i } rest) := by rw [att_ref rc0 (by decide), sp0]; kernel_rfl
end
end PG
set_option Elab.async false
set_option linter.all false
set_option maxRecDepth 100000
set_option maxHeartbeats 4000000
namespace PG
open PySem PySem.Spec L2 ME SH
section
variable {p : Pr} {low : Int} {s : Sh}
@[simp] theorem he_t : (hear p low s).tops = s.tops := rfl
@[simp] theorem he_h : (hear p low s).heard = s.heard := rfl
@[simp] theorem he_m : (hear p low s).missed = s.missed := rfl
@[simp] theorem he_n : (hear p low s).newest = s.newest := rfl
@[simp] theorem he_c : (hear p low s).noted = s.noted := rfl
end
@[simp] theorem alHas_put_same {α : Type} {k : Int} {v : α} {l : AL α} : alHas k (alPut k v l) = true := by rw [alHas_put]; simp
@[simp] theorem alGet_put_same' {α : Type} {k : Int} {v : α} {l : AL α} : alGet k (alPut k v l) = some v := alGet_put_same l
theorem ls_add1 {m : Sto} {l : List Int} {x : Int} (h : l.length < 16777215) : evBin .Add (lsD l) (lsD [x]) m = .ok (lsD (l ++ [x])) m := ls_add (by simp; omega)
section
variable {p : Pr} {s : Sh} {pre rest : Sto} {N : Nat}
theorem e_hear (ok : p.Ok) {low : Int} (hl : s.lows.length < 1000000) (hr : (rowOf s.lows (low % p.ls)).length < 900000) : F_Run_hear [.ref pre.length, .int low] (pre ++ runC p false pre.length s rest) = .ok (.bl (heardHit p low s)) (pre ++ runC p false pre.length (hear p low s) rest) := by
  have hls : 0 < p.ls := by have := ok.n4.1; omega
  have hlw : 1 ≤ p.lw := ok.n5.1
  have x1 : ∀ m, evBin .Mod (.int low) (.int p.ls) m = .ok (.int (low % p.ls)) m := fun m => mod_ok hls
  unfold heardHit hear
  generalize hrow : rowOf s.lows (low % p.ls) = row at *
  by_cases h1 : low ∈ row
  · have hf : (row.filter fun q => !decide (q = low)).length ≤ row.length := List.length_filter_le _ _
    have f1 := fun (δ : ME.Env) (m : Sto) => ls_filter (m := m) (x := low) (l := row) (δ := δ) (i := 7) (j := 2) (k := 1) (nm := "piece")
    simp (disch := first | omega | (simp; done) | (simp; omega)) [F_Run_hear, s_Run_hear, rf_duo, pr_bot, lo_seq, rf_lows, ls_nil, ty2, rg_lows, x1, hrow, ls_in, h1, f1, ls_one, ls_add1, rp_lows]
  · by_cases h2 : (row.length : Int) = p.lw
    · have hne : row ≠ [] := by rintro rfl; simp at h2; omega
      have ht : row.tail.length ≤ row.length := by simp
      simp (disch := first | omega | (simp; done) | (simp; omega)) [F_Run_hear, s_Run_hear, rf_duo, pr_bot, lo_seq, rf_lows, ls_nil, ty2, rg_lows, x1, hrow, ls_in, h1, ls_len, h2, ls_idx0, hne, ls_slc1, rf_tb, ls_one, ls_add1, rp_lows]
    · simp (disch := first | omega | (simp; done) | (simp; omega)) [F_Run_hear, s_Run_hear, rf_duo, pr_bot, lo_seq, rf_lows, ls_nil, ty2, rg_lows, x1, hrow, ls_in, h1, ls_len, h2, ls_one, ls_add1, rp_lows]
theorem e_tells (ok : p.Ok) (h : SInv p s) {k q : Int} (hq : q ∈ rowOf s.tops k) : F_Run_tells [.ref pre.length, .int q, .int k] (pre ++ runC p false pre.length s rest) = .ok (.bl (tells p q k s)) (pre ++ runC p false pre.length s rest) := by
  obtain ⟨k1, k2, k3⟩ := h.known _ _ hq
  have s1 : ∀ m, evCmp .Eq (.str "moved") (.str "misses") m = .ok (.bl false) m := fun m => by kernel_rfl
  have s2 : ∀ (t : Int) m, evCmp .Eq (.tup [.str "each", .int t]) (.str "misses") m = .ok (.bl false) m := fun t m => by kernel_rfl
  have s3 : ∀ (t : Int) m, evCmp .Eq (.tup [.str "each", .int t]) (.str "moved") m = .ok (.bl false) m := fun t m => by kernel_rfl
  unfold tells
  cases hh : p.hr with
  | misses => simp [F_Run_tells, s_Run_tells, rf_duo, pr_hears, hh, Hr.d]
  | moved => simp [F_Run_tells, s_Run_tells, rf_duo, pr_hears, hh, Hr.d, s1, rf_newest, rd_newest, k2]; rw [Bool.eq_iff_iff]; simp
  | each t => simp [F_Run_tells, s_Run_tells, rf_duo, pr_hears, hh, Hr.d, s2, s3, rf_missed, rg_missed, ty4, rf_heard, rd_heard, k1, at1]
theorem e_ask (ok : p.Ok) (h : SInv p s) (sm : Small N s) (hN : N < 800000) {place : Int} : F_Run_ask [.ref pre.length, .int place] (pre ++ runC p false pre.length s rest) = .ok (.tup [.str (word p s place), .bl (told p s place)]) (pre ++ runC p false pre.length (askN p s place) rest) := by
  have hus : 0 < p.us := by have := ok.n1.1; omega
  have hun : 0 < p.un := by have := ok.n3.1; omega
  have hln : 0 < p.ln := by have := ok.n6.1; omega
  have lg : ∀ {k : Int}, Num k → k.natAbs.log2 < 9000 := by
    intro k hk
    have h3 : k.natAbs < 2 ^ 200 := by have := hk.2; have := hk.1; omega
    have h4 : k.natAbs ≠ 0 := by have := hk.1; omega
    exact Nat.lt_of_lt_of_le ((Nat.log2_lt h4).mpr h3) (by decide)
  have x1 : ∀ i m, evBin .Mod (.int i) (.int p.us) m = .ok (.int (i % p.us)) m := fun i m => mod_ok hus
  have x2 : ∀ i m, evBin .FloorDiv (.int i) (.int p.un) m = .ok (.int (i / p.un)) m := fun i m => fdiv_ok hun (lg ok.n3)
  have x3 : ∀ i m, evBin .FloorDiv (.int i) (.int p.ln) m = .ok (.int (i / p.ln)) m := fun i m => fdiv_ok hln (lg ok.n6)
  have hr := row_small sm.tr (place / p.un % p.us)
  have l1 := sm.t
  have l2 := sm.l
  have l3 := sm.h
  have l4 := sm.m
  have l5 := sm.n
  unfold askN word told
  by_cases h1 : place / p.un ∈ rowOf s.tops (place / p.un % p.us)
  · have hh : isHit p place s = true := by unfold isHit; simpa using h1
    have ht := e_tells (pre := pre) (rest := rest) ok h h1
    obtain ⟨k1, k2, k3⟩ := h.known _ _ h1
    have kt : alHas (place / p.un % p.us) s.tops = true := by
      rw [← alGet_isSome]
      cases q : alGet (place / p.un % p.us) s.tops with
      | none => unfold rowOf at h1; rw [q] at h1; simp at h1
      | some r => rfl
    have hf : ((rowOf s.tops (place / p.un % p.us)).filter fun q => !decide (q = place / p.un)).length ≤ (rowOf s.tops (place / p.un % p.us)).length := List.length_filter_le _ _
    rw [hh]
    unfold askHit
    dsimp only
    have hr2 := row_small sm.lr (place / p.ln % p.ls)
    have f1 : ∀ δ : ME.Env, δ[0]? = some (some (.ref pre.length)) → δ[2]? = some (some (.int (place / p.un % p.us))) → 11 < δ.length → δ[8]? = some (some (.int (place / p.un))) →
        ev (.lc (.var 11) (.name 11) (.lst (.get (.fld "Run" (.var 0) "tops") (.var 2))) (.cons (.cmp .NotEq (.var 11) (.var 8)) .nil) [("each", 11)]) δ (pre ++ runC p false pre.length s rest) = .ok (lsD ((rowOf s.tops (place / p.un % p.us)).filter fun q => decide (q ≠ place / p.un))) (pre ++ runC p false pre.length s rest) := fun δ a0 a2 a11 a8 =>
      ls_filterE (by simp [env_ok a0, env_ok a2, rf_tops, rd_tops, kt]) a11 a8 (by decide) (by omega)
    have hl1 : s.lows.length < 1000000 := by omega
    have hr1 : (rowOf s.lows (place / p.ln % p.ls)).length < 900000 := by omega
    have eh := fun (s' : Sh) (h1 : s'.lows.length < 1000000) (h2 : (rowOf s'.lows (place / p.ln % p.ls)).length < 900000) => e_hear (pre := pre) (rest := rest) (s := s') ok (low := place / p.ln) h1 h2
    by_cases h2 : tells p (place / p.un) (place / p.un % p.us) s = true
    · simp (disch := first | omega | (simp; done) | (simp; omega)) [F_Run_ask, s_Run_ask, rf_duo, pr_top, up_seq, x1, x2, x3, pr_bot, lo2, rf_tops, ty1, rg_tops, ls_nil, ls_in, h1, ht, ri_tells, h2, f1, rd_tops, kt, ls_one, ls_add1, rp_tops, rf_newest, rp_newest, ri_hear, eh, hl1, hr1, rf_missed, ty4, rg_missed, rf_heard, rp_heard, rf_noted, ra_noted, he_h, he_m, he_c]
    · simp (disch := first | omega | (simp; done) | (simp; omega)) [F_Run_ask, s_Run_ask, rf_duo, pr_top, up_seq, x1, x2, x3, pr_bot, lo2, rf_tops, ty1, rg_tops, ls_nil, ls_in, h1, ht, ri_tells, h2, f1, rd_tops, kt, ls_one, ls_add1, rp_tops, rf_newest, rp_newest]
  · have hh : isHit p place s = false := by unfold isHit; simpa using h1
    rw [hh]
    unfold askMiss
    dsimp only
    have hr2 := row_small sm.lr (place / p.ln % p.ls)
    have hl1 : s.lows.length < 1000000 := by omega
    have hr1 : (rowOf s.lows (place / p.ln % p.ls)).length < 900000 := by omega
    have eh := fun (s' : Sh) (h1 : s'.lows.length < 1000000) (h2 : (rowOf s'.lows (place / p.ln % p.ls)).length < 900000) => e_hear (pre := pre) (rest := rest) (s := s') ok (low := place / p.ln) h1 h2
    have hn := h1
    by_cases h3 : ((rowOf s.tops (place / p.un % p.us)).length : Int) = p.uw <;> by_cases h4 : place / p.ln ∈ rowOf s.lows (place / p.ln % p.ls) <;>
      simp (disch := first | omega | (simp; done) | (simp; omega)) [F_Run_ask, s_Run_ask, rf_duo, pr_top, up_seq, x1, x2, x3, pr_bot, lo2, rf_tops, ty1, rg_tops, ls_nil, ls_in, h1, rf_missed, ty4, rg_missed, rp_missed, rf_newest, rp_newest, ri_hear, eh, hl1, hr1, rd_missed, rf_heard, rp_heard, ls_len, heardHit, h3, h4, ls_slc1, ls_one, ls_add1, rp_tops]
end
end PG
set_option Elab.async false
set_option linter.all false
set_option maxRecDepth 100000
set_option maxHeartbeats 4000000
namespace PG
open PySem PySem.Spec L2 ME SH
/-- a bound that no law comes near -/
def big : Nat := 2 ^ 4000
theorem log_lt {i : Int} {k : Nat} (hk : 0 < k) (h : i.natAbs < 2 ^ k) : i.natAbs.log2 < k := by
  by_cases h0 : i.natAbs = 0
  · rw [h0]; simpa using hk
  · exact (Nat.log2_lt h0).mpr h
theorem mul_w {i j : Int} {m : Sto} (hi : i.natAbs < big) (hj : j.natAbs < big) : evBin .Mult (.int i) (.int j) m = .ok (.int (i * j)) m := by
  have h1 : i.natAbs.log2 < 4000 := log_lt (by decide) hi
  have h2 : j.natAbs.log2 < 4000 := log_lt (by decide) hj
  rw [mul_ii]
  split
  · rfl
  · rw [if_pos (by omega)]
theorem num_log {k : Int} (hk : Num k) : k.natAbs.log2 < 9000 := by
  have h3 : k.natAbs < 2 ^ 200 := by have := hk.2; have := hk.1; omega
  have h4 : k.natAbs.log2 < 200 := log_lt (by decide) h3
  omega
theorem num_nat {k : Int} (hk : Num k) : k.natAbs < big := by
  have h3 : k.natAbs < 2 ^ 200 := by have := hk.2; have := hk.1; omega
  exact Nat.lt_of_lt_of_le h3 (Nat.pow_le_pow_right (by decide) (by decide))
/-- no piece above is too great -/
def Bd (s : Sh) : Prop := ∀ k row, (k, row) ∈ s.tops → ∀ q ∈ row, q.natAbs < big
theorem div_abs {a b : Int} (hb : 1 ≤ b) : (a / b).natAbs ≤ a.natAbs := by
  rcases Int.le_total 0 a with h | h
  · have h1 := Int.ediv_nonneg h (show 0 ≤ b by omega)
    have h2 : a / b ≤ a := Int.ediv_le_self _ h
    omega
  · have h1 : a ≤ a / b := by
      rw [Int.le_ediv_iff_mul_le (by omega)]
      have := Int.mul_le_mul_of_nonpos_left (a := a) (b := b) (c := 1) h (by omega)
      omega
    have h2 : a / b ≤ 0 := by
      by_cases h3 : 0 < a / b
      · have := (Int.le_ediv_iff_mul_le (by omega) (a := 1) (b := a) (c := b)).mp (by omega)
        omega
      · omega
    omega
theorem bd_ask {p : Pr} (ok : p.Ok) {s : Sh} (h : Bd s) {place : Int} (hp : place.natAbs < big) : Bd (askN p s place) := by
  have hq : (place / p.un).natAbs < big := Nat.lt_of_le_of_lt (div_abs ok.n3.1) hp
  have hr : ∀ q ∈ rowOf s.tops (place / p.un % p.us), q.natAbs < big := by
    rcases rowOf_mem (l := s.tops) (k := place / p.un % p.us) with e | e
    · rw [e]; simp
    · exact h _ _ e
  have key : Bd { askN p s place with tops := alPut (place / p.un % p.us) (nextRow p.uw (rowOf s.tops (place / p.un % p.us)) (place / p.un)) s.tops } := by
    intro k row hk q hq2
    rcases mem_alPut hk with ⟨rfl, rfl⟩ | hk
    · rcases nextRow_mem hq2 with rfl | h2
      · exact hq
      · exact hr q h2
    · exact h _ _ hk q hq2
  have e : (askN p s place).tops = alPut (place / p.un % p.us) (nextRow p.uw (rowOf s.tops (place / p.un % p.us)) (place / p.un)) s.tops := by
    unfold askN isHit
    by_cases hm : place / p.un ∈ rowOf s.tops (place / p.un % p.us)
    · rw [if_pos (by simpa using hm)]
      unfold askHit
      dsimp only
      rw [filt_in (w := p.uw) hm]
      split <;> rfl
    · rw [if_neg (by simpa using hm)]
      unfold askMiss
      dsimp only
      rw [drop_in hm]
      rfl
  intro k row hk q hq2
  rw [e] at hk
  exact key k row hk q hq2
theorem bd0 : Bd sh0 := fun k row h => nomatch h
/-! ### what a run keeps, its tops locked or not -/
structure RunAt (m : Sto) (n : Nat) (p : Pr) (s : Sh) : Prop where
  ex : ∃ tb a, m[n]? = some (.ins "Run" nsR [p.obj, .bl tb, .ref (n + 1), .ref (n + 2), .ref (n + 3), .ref (n + 4), .ref (n + 5), .int s.noted, a])
  t : DctAt m (n + 1) lsD s.tops
  l : DctAt m (n + 2) lsD s.lows
section
variable {p : Pr} {s : Sh} {m : Sto} {n : Nat}
theorem ra_duo (R : RunAt m n p s) : evFld "Run" "duo" (.ref n) m = .ok p.obj m := by obtain ⟨tb, a, h⟩ := R.ex; rw [fld_ref h]; kernel_rfl
theorem ra_tops (R : RunAt m n p s) : evFld "Run" "tops" (.ref n) m = .ok (.ref (n + 1)) m := by obtain ⟨tb, a, h⟩ := R.ex; rw [fld_ref h]; kernel_rfl
theorem ra_lows (R : RunAt m n p s) : evFld "Run" "lows" (.ref n) m = .ok (.ref (n + 2)) m := by obtain ⟨tb, a, h⟩ := R.ex; rw [fld_ref h]; kernel_rfl
theorem ra_keeps (R : RunAt m n p s) : insIs "Run" "keeps" (.ref n) m = true := by obtain ⟨tb, a, h⟩ := R.ex; exact insIs_ref h (by decide +kernel)
theorem e_keeps (ok : p.Ok) (R : RunAt m n p s) {place : Int} : F_Run_keeps [.ref n, .int place] m = .ok (.tup [.bl (decide (place / p.un ∈ rowOf s.tops (place / p.un % p.us))), .bl (decide (place / p.ln ∈ rowOf s.lows (place / p.ln % p.ls)))]) m := by
  have hus : 0 < p.us := by have := ok.n1.1; omega
  have hun : 0 < p.un := by have := ok.n3.1; omega
  have hls : 0 < p.ls := by have := ok.n4.1; omega
  have hln : 0 < p.ln := by have := ok.n6.1; omega
  have x1 : ∀ i m, evBin .Mod (.int i) (.int p.us) m = .ok (.int (i % p.us)) m := fun i m => mod_ok hus
  have x2 : ∀ i m, evBin .FloorDiv (.int i) (.int p.un) m = .ok (.int (i / p.un)) m := fun i m => fdiv_ok hun (num_log ok.n3)
  have x3 : ∀ i m, evBin .FloorDiv (.int i) (.int p.ln) m = .ok (.int (i / p.ln)) m := fun i m => fdiv_ok hln (num_log ok.n6)
  have x4 : ∀ i m, evBin .Mod (.int i) (.int p.ls) m = .ok (.int (i % p.ls)) m := fun i m => mod_ok hls
  have g1 : ∀ k, evBm .get2 (.ref (n + 1)) [.int k, lsD []] m = .ok (lsD (rowOf s.tops k)) m := fun k => get2_ref (v := []) rfl R.t
  have g2 : ∀ k, evBm .get2 (.ref (n + 2)) [.int k, lsD []] m = .ok (lsD (rowOf s.lows k)) m := fun k => get2_ref (v := []) rfl R.l
  have t1 : bmTy .get2 (.ref (n + 1)) m = true := bmTy_dct rfl R.t
  have t2 : bmTy .get2 (.ref (n + 2)) m = true := bmTy_dct rfl R.l
  simp [F_Run_keeps, s_Run_keeps, ra_duo R, pr_top, pr_bot, up2, lo2, up0, lo0, x1, x2, x3, x4, ra_tops R, ra_lows R, ls_nil, t1, t2, g1, g2, ls_in]
def lcLone : Ex := .lc (.var 4) (.name 4) (.lst (.var 1)) (.cons (.nt (.idx (.mth "Run" (.var 0) "keeps" F_Run_keeps (.cons (.bin .Mult (.var 4) (.var 3)) .nil)) (.int 1))) .nil) [("piece", 4)]
theorem lone_row (ok : p.Ok) (R : RunAt m n p s) {row : List Int} (hb : ∀ q ∈ row, q.natAbs < big) (hl : row.length ≤ 1000000) {δ : ME.Env} (h0 : δ[0]? = some (some (.ref n))) (h1 : δ[1]? = some (some (lsD row))) (h3 : δ[3]? = some (some (.int p.un))) (h4 : 4 < δ.length) :
    ev lcLone δ m = .ok (lsD (row.filter (isLone p s))) m := by
  have e1 : ev lcLone δ m = lcLoop (Itm.chk ⟨row.map D.int, none⟩) (fun v m => asgn (.name 4) v (wipeE δ [4]) m) (fun e m => evIfs (.cons (.nt (.idx (.mth "Run" (.var 0) "keeps" F_Run_keeps (.cons (.bin .Mult (.var 4) (.var 3)) .nil)) (.int 1))) .nil) e m) (fun e m => ev (.var 4) e m) (row.map D.int) [] m := by
    unfold lcLone
    rw [ev]
    show (evIt (.lst (.var 1)) δ m).bind _ = _
    rw [evIt]
    show ((ev (.var 1) δ m).bind itAny).bind _ = _
    rw [ev_var, env_ok h1]; rfl
  rw [e1, lc_go (chk := Itm.chk ⟨row.map D.int, none⟩) rfl D.int (isLone p s) D.int row [] (fun q hq => ⟨(wipeE δ [4]).set 4 (some (.int q)), ?_, ?_, ?_⟩) (by simpa using hl)]
  · simp [lsD]
  · rw [asgn]
  · have w : (wipeE δ [4]).set 4 (some (.int q)) = δ.set 4 (some (.int q)) := by simp [wipeE]
    rw [w]
    have k4 : (δ.set 4 (some (D.int q)))[4]? = some (some (.int q)) := by rw [List.getElem?_set_self h4]
    have k0 : (δ.set 4 (some (D.int q)))[0]? = some (some (.ref n)) := by rw [List.getElem?_set_ne (by decide)]; exact h0
    have k3 : (δ.set 4 (some (D.int q)))[3]? = some (some (.int p.un)) := by rw [List.getElem?_set_ne (by decide)]; exact h3
    simp [env_ok k4, env_ok k0, env_ok k3, ra_keeps R, mul_w (hb q hq) (num_nat ok.n3), e_keeps ok R, at1, isLone]
  · intro _
    have w : (wipeE δ [4]).set 4 (some (.int q)) = δ.set 4 (some (.int q)) := by simp [wipeE]
    rw [w]
    simp [env_ok (List.getElem?_set_self h4)]
end
section
variable {p : Pr} {s : Sh} {pre rest : Sto} {N : Nat}
def bodyLone : List Sm := [.asg (.name 2) (.bin .Add (.var 2) lcLone)]
theorem flat_len (p : Pr) (s : Sh) {N : Nat} (l : AL (List Int)) (h : ∀ k row, (k, row) ∈ l → row.length ≤ N) : (l.flatMap fun r => r.2.filter (isLone p s)).length ≤ l.length * N := by
  induction l with
  | nil => simp
  | cons r l ih =>
    have h1 := h r.1 r.2 (by simp)
    have h2 := ih fun k row hk => h k row (by simp [hk])
    have h3 := List.length_filter_le (isLone p s) r.2
    rw [List.flatMap_cons, List.length_append, List.length_cons, Nat.succ_mul]
    omega
theorem e_lonely (ok : p.Ok) (sm : Small N s) (hb : Bd s) (hN : N ≤ 4000) {tb : Bool} : F_Run_lonely [.ref pre.length] (pre ++ runC p tb pre.length s rest) = .ok (.tup ((lonely p s).map D.int)) (pre ++ runC p tb pre.length s rest) := by
  have e0 : F_Run_lonely [.ref pre.length] (pre ++ runC p tb pre.length s rest) = fin (exs 100 [.asg (.tup (.cons (.name 2) (.cons (.name 3) .nil))) (.tup (.cons (.lst .nil) (.cons (.idx (.prp "Pair" (.fld "Run" (.var 0) "duo") "top" (noxF F_Pair_top)) (.int 2)) .nil))), .loopD "Run" 0 "tops" false (.name 1) bodyLone, .ret (.bf .tuple (.cons (.bf .sorted (.cons (.var 2) .nil)) .nil))] [some (.ref pre.length), none, none, none, none] (pre ++ runC p tb pre.length s rest)) := by
    unfold F_Run_lonely; rw [runF_eq (np := 1) rfl]; rfl
  rw [e0]
  generalize hm1 : (pre ++ runC p tb pre.length s rest).set (pre.length + 1) (.lok (encK s.tops) (encV lsD s.tops)) = m1
  have hm1' : m1 = pre ++ (runC p tb pre.length s rest).set 1 (.lok (encK s.tops) (encV lsD s.tops)) := by rw [← hm1, sp]
  have R : RunAt m1 pre.length p s := by
    rw [hm1']
    exact ⟨⟨tb, .int s.gone, by rw [gp0]; rfl⟩, .inr (by rw [gp]; rfl), .inl (by rw [gp]; rfl)⟩
  have lk : lokB (pre.length + 1) (encK s.tops) (encV lsD s.tops) m1 = true := lokB_ok (by rw [hm1', gp]; rfl)
  have fold : ∃ δ', forLoop (lokB (pre.length + 1) (encK s.tops) (encV lsD s.tops)) (fun v d m => asgn (.name 1) v d m) (fun d m => exs 100 bodyLone d m) (encV lsD s.tops) [some (.ref pre.length), none, some (lsD []), some (.int p.un), none] m1 = .ok .nx δ' m1 ∧ δ'[2]? = some (some (lsD (lonelyL p s))) := by
    have key : ∀ (l : AL (List Int)) (acc : List Int) (y1 y4 : Option D), (∀ k row, (k, row) ∈ l → row.length ≤ N ∧ ∀ q ∈ row, q.natAbs < big) → acc.length + l.length * N ≤ 16000000 →
        ∃ δ', forLoop (lokB (pre.length + 1) (encK s.tops) (encV lsD s.tops)) (fun v d m => asgn (.name 1) v d m) (fun d m => exs 100 bodyLone d m) (encV lsD l) [some (.ref pre.length), y1, some (lsD acc), some (.int p.un), y4] m1 = .ok .nx δ' m1 ∧ δ'[2]? = some (some (lsD (acc ++ l.flatMap fun r => r.2.filter (isLone p s)))) := by
      intro l
      induction l with
      | nil => intro acc y1 y4 _ _; exact ⟨_, by rw [show encV lsD ([] : AL (List Int)) = [] from rfl, forLoop, if_pos lk], by simp⟩
      | cons r l ih =>
        intro acc y1 y4 hr hz
        obtain ⟨h1, h2⟩ := hr r.1 r.2 (by simp)
        have hz2 : acc.length + (l.length * N + N) ≤ 16000000 := by rw [List.length_cons, Nat.succ_mul] at hz; exact hz
        have hf := List.length_filter_le (isLone p s) r.2
        obtain ⟨δ', q1, q2⟩ := ih (acc ++ r.2.filter (isLone p s)) (some (lsD r.2)) y4 (fun k row hk => hr k row (by simp [hk])) (by rw [List.length_append]; omega)
        refine ⟨δ', ?_, by rw [q2]; simp⟩
        rw [show encV lsD (r :: l) = lsD r.2 :: encV lsD l from rfl, forLoop, if_pos lk]
        have b1 : exs 100 bodyLone [some (.ref pre.length), some (lsD r.2), some (lsD acc), some (.int p.un), y4] m1 = .ok .nx [some (.ref pre.length), some (lsD r.2), some (lsD (acc ++ r.2.filter (isLone p s))), some (.int p.un), y4] m1 := by
          have e := lone_row (δ := [some (.ref pre.length), some (lsD r.2), some (lsD acc), some (.int p.un), y4]) ok R h2 (by omega) rfl rfl rfl (by simp)
          simp [bodyLone, e, ls_add (show acc.length + (r.2.filter (isLone p s)).length ≤ 16777216 by omega)]
        simp only [as_name, nox_ok', then_ok, List.set_cons_succ, List.set_cons_zero, b1]
        exact q1
    obtain ⟨δ', q1, q2⟩ := key s.tops [] none none (fun k row hk => ⟨sm.tr k row hk, hb k row hk⟩) (by
      have := sm.t
      have h3 : s.tops.length * N ≤ 4000 * 4000 := Nat.mul_le_mul (by omega) hN
      simp; omega)
    exact ⟨δ', q1, q2⟩
  obtain ⟨δ', f1, f2⟩ := fold
  have loop : ex 100 (.loopD "Run" 0 "tops" false (.name 1) bodyLone) [some (.ref pre.length), none, some (lsD []), some (.int p.un), none] (pre ++ runC p tb pre.length s rest) = .ok .nx δ' (pre ++ runC p tb pre.length s rest) := by
    rw [ex_loopD]
    unfold evLoopD
    show (match evFld "Run" "tops" (.ref pre.length) (pre ++ runC p tb pre.length s rest) with
      | .ok (.ref n) _ => (match cellD (pre ++ runC p tb pre.length s rest) n with
        | some (ks, es) => unlok n ks es (forLoop (lokB n ks es) (fun v d m => asgn (.name 1) v d m) (fun d m => exs 100 bodyLone d m) (dctIt false ks es) _ ((pre ++ runC p tb pre.length s rest).set n (.lok ks es)))
        | _ => .stuck)
      | _ => .stuck) = _
    rw [rf_tops]
    have ec : cellD (pre ++ runC p tb pre.length s rest) (pre.length + 1) = some (encK s.tops, encV lsD s.tops) := by unfold cellD; rw [rc1]
    show (match cellD (pre ++ runC p tb pre.length s rest) (pre.length + 1) with
        | some (ks, es) => unlok (pre.length + 1) ks es (forLoop (lokB (pre.length + 1) ks es) (fun v d m => asgn (.name 1) v d m) (fun d m => exs 100 bodyLone d m) (dctIt false ks es) _ ((pre ++ runC p tb pre.length s rest).set (pre.length + 1) (.lok ks es)))
        | _ => .stuck) = _
    rw [ec]
    show unlok (pre.length + 1) (encK s.tops) (encV lsD s.tops) (forLoop (lokB (pre.length + 1) (encK s.tops) (encV lsD s.tops)) (fun v d m => asgn (.name 1) v d m) (fun d m => exs 100 bodyLone d m) (encV lsD s.tops) _ ((pre ++ runC p tb pre.length s rest).set (pre.length + 1) (.lok (encK s.tops) (encV lsD s.tops)))) = _
    rw [hm1, f1]
    show (if lokB (pre.length + 1) (encK s.tops) (encV lsD s.tops) m1 = true then SRes.ok .nx δ' (m1.set (pre.length + 1) (.dct (encK s.tops) (encV lsD s.tops))) else .stuck) = _
    rw [if_pos lk, hm1', sp]
    rfl
  have so : ∀ m, evBf .sorted [lsD (lonelyL p s)] m = .ok (.lst ((lonely p s).map D.int)) m := by
    intro m
    show (match (lstOfR m (.lst ((lonelyL p s).map D.int))).bind asInts with
      | some ns => Res.ok (D.lst ((ns.mergeSort (fun a b => decide (a ≤ b))).map D.int)) m
      | none => .stuck) = _
    show (match asInts ((lonelyL p s).map D.int) with
      | some ns => Res.ok (D.lst ((ns.mergeSort (fun a b => decide (a ≤ b))).map D.int)) m
      | none => .stuck) = _
    rw [asInts_map]; rfl
  simp [rf_duo, pr_top, up2, ls_nil, loop, env_ok f2, so]
end
end PG
set_option Elab.async false
set_option linter.all false
set_option maxRecDepth 100000
set_option maxHeartbeats 4000000
namespace PG
open PySem PySem.Spec L2 ME SH
theorem putNs_new {f : Str} : ∀ {ns : List Str}, f ∉ ns → putNs f ns = ns ++ [f]
  | [], _ => rfl
  | n :: ns, h => by
    rw [putNs, if_neg (fun e => h (by rw [e]; exact List.mem_cons_self)), putNs_new (fun e => h (List.mem_cons_of_mem _ e))]; rfl
theorem putFs_new {f : Str} {v : D} : ∀ {ns : List Str} {fs : List D}, f ∉ ns → ns.length = fs.length → putFs f v ns fs = fs ++ [v]
  | [], [], _, _ => rfl
  | [], _ :: _, _, h => by simp at h
  | _ :: _, [], _, h => by simp at h
  | n :: ns, d :: fs, h, hl => by
    rw [putFs, if_neg (fun e => h (by rw [e]; exact List.mem_cons_self)), putFs_new (fun e => h (List.mem_cons_of_mem _ e)) (by simpa using hl)]; rfl
theorem e_newRun {p : Pr} {tb : Bool} {m : Sto} : evNew "Run" F_Run_init [p.obj, .bl tb] m = .ok (.ref m.length) (m ++ runC p tb m.length sh0 []) := by
  unfold evNew
  have e : F_Run_init [.ref m.length, p.obj, .bl tb] (m ++ [.ins "Run" [] []]) = .ok .non (m ++ runC p tb m.length sh0 []) := by
    have g0 : ∀ (ns : List Str) (fs : List D) (rest : Sto), (m ++ .ins "Run" ns fs :: rest)[m.length]? = some (.ins "Run" ns fs) := fun ns fs rest => by rw [gp0]; rfl
    have a0 : ∀ (f : Str) (v : D) (ns : List Str) (fs : List D) (rest : Sto), ns.length < 900 → f ∉ ns → ns.length = fs.length → evAtt "Run" f (.ref m.length) v (m ++ .ins "Run" ns fs :: rest) = some (m ++ .ins "Run" (ns ++ [f]) (fs ++ [v]) :: rest) := fun f v ns fs rest h h2 h3 => by
      rw [att_ref (g0 ns fs rest) h, sp0, putNs_new h2, putFs_new h2 h3]; rfl
    simp (disch := first | (simp; done) | decide +kernel) [F_Run_init, s_Run_init, a0]
    rfl
  rw [e]; rfl
def encT (t : Str × Bool) : D := .tup [.str t.1, .bl t.2]
def tellsOf (p : Pr) : Sh → List Int → List (Str × Bool)
  | _, [] => []
  | s, x :: row => (word p s x, told p s x) :: tellsOf p (askN p s x) row
theorem runC_app {p : Pr} {tb : Bool} {s : Sh} {o : Nat} {r t : Sto} : runC p tb o s r ++ t = runC p tb o s (r ++ t) := rfl
theorem runC_len {p : Pr} {tb : Bool} {s : Sh} {o : Nat} {r : Sto} : (runC p tb o s r).length = r.length + 6 := rfl
theorem cell_run {p : Pr} {tb : Bool} {s : Sh} {pre rest : Sto} {c : Cell} : (pre ++ runC p tb pre.length s (c :: rest))[pre.length + 6]? = some c := by rw [gp]; rfl
theorem e_append {m : Sto} {n : Nat} {ds : List D} {d : D} (h : m[n]? = some (.lst ds)) (hl : ds.length < 16777216) : evBm .append (.ref n) [d] m = .ok .non (m.set n (.lst (ds ++ [d]))) := by
  have e : cellL m n = some ds := by unfold cellL; rw [h]
  show (match cellL m n with
    | some es => if es.length < 16777216 then Res.ok D.non (m.set n (.lst (es ++ [d]))) else .stuck
    | none => .stuck) = _
  rw [e]
  show (if ds.length < 16777216 then _ else _) = _
  rw [if_pos hl]
theorem ty_lst {m : Sto} {n : Nat} {ds : List D} {b : Bm} (hb : b.ty = "list") (h : m[n]? = some (.lst ds)) : bmTy b (.ref n) m = true := by
  unfold bmTy
  rw [hb]
  show (lstOf m (.ref n)).isSome = true
  show (match m[n]? with | some (Cell.lst ds) => some ds | _ => none).isSome = true
  rw [h]; rfl
theorem run_loop {p : Pr} (ok : p.Ok) {pre : Sto} {y0 y1 : Option D} : ∀ (row : List Int) (s : Sh) (acc : List (Str × Bool)) (N : Nat) (y2 : Option D), SInv p s → Small N s → N + row.length ≤ 700000 → acc.length + row.length ≤ 16000000 →
    ∃ y, forLoop (fun _ => true) (fun v d m => asgn (.name 2) v d m) (fun d m => exs 100 [.exp (.bm .append (.var 4) (.cons (.mth "Run" (.var 3) "ask" F_Run_ask (.cons (.var 2) .nil)) .nil))] d m) (row.map D.int) [y0, y1, y2, some (.ref pre.length), some (.ref (pre.length + 6))] (pre ++ runC p false pre.length s [.lst (acc.map encT)]) =
      .ok .nx [y0, y1, y, some (.ref pre.length), some (.ref (pre.length + 6))] (pre ++ runC p false pre.length (row.foldl (askN p) s) [.lst ((acc ++ tellsOf p s row).map encT)])
  | [], s, acc, N, y2, h, sm, hN, hz => ⟨y2, by simp [forLoop, tellsOf]⟩
  | x :: row, s, acc, N, y2, h, sm, hN, hz => by
    rw [List.length_cons] at hN hz
    obtain ⟨y, e⟩ := run_loop ok (pre := pre) (y0 := y0) (y1 := y1) row (askN p s x) (acc ++ [(word p s x, told p s x)]) (N + 1) (some (.int x)) (ask_inv ok h x) (ask_small sm x) (by omega) (by simp; omega)
    refine ⟨y, ?_⟩
    have ea := e_ask (pre := pre) (rest := [.lst (acc.map encT)]) ok h sm (by omega) (place := x)
    have hty : bmTy .append (.ref (pre.length + 6)) (pre ++ runC p false pre.length s [.lst (acc.map encT)]) = true := ty_lst rfl cell_run
    have hap : evBm .append (.ref (pre.length + 6)) [.tup [.str (word p s x), .bl (told p s x)]] (pre ++ runC p false pre.length (askN p s x) [.lst (acc.map encT)]) = .ok .non (pre ++ runC p false pre.length (askN p s x) [.lst ((acc ++ [(word p s x, told p s x)]).map encT)]) := by
      rw [e_append cell_run (by simp; omega), sp, List.map_append]; rfl
    have hri : insIs "Run" "ask" (.ref pre.length) (pre ++ runC p false pre.length s [.lst (acc.map encT)]) = true := ri_ask
    simp [forLoop, hty, hri, ea, hap]
    simp only [List.map_append, List.append_assoc] at e ⊢
    simpa [tellsOf] using e
theorem e_run_of {p : Pr} (ok : p.Ok) {row : List Int} (hl : row.length ≤ 600000) {m : Sto} : F_run_of [p.obj, .tup (row.map D.int)] m = .ok (.tup [.ref m.length, .ref (m.length + 6)]) (m ++ runC p false m.length (runN p row) [.lst ((tellsOf p sh0 row).map encT)]) := by
  obtain ⟨y, e⟩ := run_loop ok (pre := m) (y0 := some p.obj) (y1 := some (.tup (row.map D.int))) row sh0 [] 0 none sinv0 small0 (by omega) (by simp; omega)
  have e1 : ∀ m, evNew "Run" Fd1_Run_init [p.obj] m = .ok (.ref m.length) (m ++ runC p false m.length sh0 []) := fun m => e_newRun (tb := false)
  have it : ∀ δ : ME.Env, δ[1]? = some (some (.tup (row.map D.int))) → ∀ m, evIt (.lst (.var 1)) δ m = .ok ⟨row.map D.int, none⟩ m := fun δ h m => by
    rw [evIt]
    show (ev (.var 1) δ m).bind itAny = _
    rw [ev_var, env_ok h]; rfl
  have lp : ex 100 (.loop (.name 2) (.lst (.var 1)) [.exp (.bm .append (.var 4) (.cons (.mth "Run" (.var 3) "ask" F_Run_ask (.cons (.var 2) .nil)) .nil))]) [some p.obj, some (.tup (row.map D.int)), none, some (.ref m.length), some (.ref (m.length + 6))] (m ++ runC p false m.length sh0 [.lst []]) =
      .ok .nx [some p.obj, some (.tup (row.map D.int)), y, some (.ref m.length), some (.ref (m.length + 6))] (m ++ runC p false m.length (runN p row) [.lst ((tellsOf p sh0 row).map encT)]) := by
    rw [ex_loop, it _ rfl]
    exact e
  simp [F_run_of, s_run_of, e1, runC_len, runC_app, lp]
end PG
set_option Elab.async false
set_option linter.all false
set_option maxRecDepth 100000
set_option maxHeartbeats 4000000
namespace PQ
open PySem PySem.Spec L2 ME PG
/-! ### the pair -/
theorem hr_hears {p : SH.Pr} (ok : p.Ok) : Hears p.hr.d := by
  cases e : p.hr with
  | misses => exact .inl rfl
  | moved => exact .inr (.inl rfl)
  | each t => exact .inr (.inr ⟨t, rfl, (ok.hh t e).1, (ok.hh t e).2⟩)
theorem pr_mi {p : SH.Pr} (ok : p.Ok) : Mi p.us p.uw p.un p.ls p.lw p.ln p.hr.d := ⟨ok.n1, ok.n2, ok.n3, ok.n4, ok.n5, ok.n6, ok.dv, hr_hears ok⟩
theorem mi_pr {us uw un ls lw ln : Int} {h : D} (hm : Mi us uw un ls lw ln h) : ∃ p : SH.Pr, p.Ok ∧ mine us uw un ls lw ln h = p.mine := by
  obtain ⟨n1, n2, n3, n4, n5, n6, dv, hh⟩ := hm
  rcases hh with rfl | rfl | ⟨e, rfl, g0, g1⟩
  · exact ⟨⟨us, uw, un, ls, lw, ln, .misses⟩, ⟨n1, n2, n3, n4, n5, n6, dv, fun t h => by cases h⟩, rfl⟩
  · exact ⟨⟨us, uw, un, ls, lw, ln, .moved⟩, ⟨n1, n2, n3, n4, n5, n6, dv, fun t h => by cases h⟩, rfl⟩
  · exact ⟨⟨us, uw, un, ls, lw, ln, .each e⟩, ⟨n1, n2, n3, n4, n5, n6, dv, fun t h => by cases h; exact ⟨g0, g1⟩⟩, rfl⟩
theorem hrd_closed {h : SH.Hr} : h.d.closed = true := by cases h <;> rfl
theorem up_closed {p : SH.Pr} : p.up.closed = true := rfl
theorem lo_closed {p : SH.Pr} : p.lo.closed = true := rfl
theorem obj_closed {p : SH.Pr} : p.obj.closed = true := by
  cases p with
  | mk us uw un ls lw ln hr => cases hr <;> rfl
theorem mine_cl {p : SH.Pr} : p.mine.closed = true := by
  cases p with
  | mk us uw un ls lw ln hr => cases hr <;> rfl
theorem p_init {p : SH.Pr} (ok : p.Ok) {m : Sto} :
    F_Pair_init [.ref m.length, p.up, p.lo, p.hr.d] (m ++ [.ins "Pair" [] []]) = .ok .non (m ++ [.ins "Pair" ["front", "back", "notes"] [p.up, p.lo, p.hr.d]]) := by
  have hm := pr_mi ok
  have w1 : ∀ m, pureF F_wrong_number [.tup [.int p.us, .int p.uw, .int p.un]] m = .ok (.tup []) m := fun m => p_wrong hm.n1 hm.n2 hm.n3
  have w2 : ∀ m, pureF F_wrong_number [.tup [.int p.ls, .int p.lw, .int p.ln]] m = .ok (.tup []) m := fun m => p_wrong hm.n4 hm.n5 hm.n6
  have w3 : ∀ m, pureF F_is_hears [p.hr.d] m = .ok (.bl true) m := fun m => p_is_hears hm.hh
  have x1 : ∀ m, evBin .Mod (.int p.ln) (.int p.un) m = .ok (.int 0) m := fun m => by rw [mod_ok (by have := hm.n3.1; omega), hm.dv]
  have k1 : ¬ (Str.ofString "front" = Str.ofString "back") := by decide +kernel
  have k2 : ¬ (Str.ofString "front" = Str.ofString "notes") := by decide +kernel
  have k3 : ¬ (Str.ofString "back" = Str.ofString "notes") := by decide +kernel
  generalize p.hr.d = hd at *
  simp [F_Pair_init, runF, ps_Pair_init, N_Pair_init, s_Pair_init, exs, ex, ev, evs, asgn, at2, SH.Pr.up, SH.Pr.lo, w1, w2, w3, x1, ne_tt0, evAtt, putNs, putFs, k1, k2, k3]
theorem p_new {p : SH.Pr} (ok : p.Ok) {m : Sto} : pureF (fun ds m => evNew "Pair" F_Pair_init ds m) [p.up, p.lo, p.hr.d] m = .ok p.obj m := by
  have e := p_init ok (m := [])
  have e2 : evNew "Pair" F_Pair_init [p.up, p.lo, p.hr.d] [] = .ok (.ref 0) [.ins "Pair" ["front", "back", "notes"] [p.up, p.lo, p.hr.d]] := by
    unfold evNew
    rw [show F_Pair_init (.ref ([] : Sto).length :: [p.up, p.lo, p.hr.d]) ([] ++ [.ins "Pair" [] []]) = _ from e]
    rfl
  unfold pureF
  rw [if_pos (by simp [D.closeds, up_closed, lo_closed, hrd_closed])]
  have : frz [.ins "Pair" ["front", "back", "notes"] [p.up, p.lo, p.hr.d]] 12 (.ref 0) = some p.obj := by
    simp [frz, seqO, SH.Pr.obj, D.closed, D.closeds, up_closed, lo_closed, hrd_closed]
  simp only [e2, this]
def leastP (p : SH.Pr) : Int := leastI p.us p.uw p.un p.ls p.ln p.hr.d
def dueP (p : SH.Pr) : Bool := decide (0 < leastP p) && decide (leastP p ≤ p.lw)
theorem p_linked {p : SH.Pr} (ok : p.Ok) {m : Sto} : pureF F_is_linked [p.obj] m = .ok (.bl (p.us == 1 || (p.un == p.ln && p.ls % p.us == 0))) m := pure_ok (m1 := []) (by simp [D.closeds, obj_closed]) (by
  have x1 : ∀ m, evBin .Mod (.int p.ls) (.int p.us) m = .ok (.int (p.ls % p.us)) m := fun m => mod_ok (by have := ok.n1.1; omega)
  by_cases c1 : p.us = 1 <;> by_cases c4 : p.un = p.ln <;> by_cases c5 : p.ls % p.us = 0 <;>
    (simp [F_is_linked, runF, ps_is_linked, N_is_linked, s_is_linked, exs, ex, ev, evs, evOr, evAnd, pr_top, pr_bot, SH.Pr.up, SH.Pr.lo, at0, at1, at2, x1, c1, c4, c5]; try (first | rfl | (rw [Bool.eq_iff_iff]; simp [c1, c4, c5])))) rfl
theorem in_each' {e : Int} {m : Sto} : evCmp .In (.tup [.str "each", .int e]) (.tup [.str "moved", .tup [.str "each", .int 0]]) m = .ok (.bl (e == 0)) m := by
  have : (0 == e) = (e == 0) := by rw [Bool.eq_iff_iff, beq_iff_eq, beq_iff_eq]; exact ⟨Eq.symm, Eq.symm⟩
  simp [evCmp, memD, seqOf, lstOfR, lstOf, D.flat, okEq, D.lay, D.lays, D.dep, D.deps, D.eqv, D.eqvs, bRes, so_each, so_moved, this]
theorem in_moved' {m : Sto} : evCmp .In (.str "moved") (.tup [.str "moved", .tup [.str "each", .int 0]]) m = .ok (.bl true) m := by kernel_rfl
def waysD (p : SH.Pr) : D := if leastP p = 0 then .non else .int (leastP p)
theorem p_ways {p : SH.Pr} (ok : p.Ok) {m : Sto} : F_ways_for [p.obj, p.hr.d] m = .ok (waysD p) m := by
  have x2 : ∀ m, evBin .Mult (.int 2) (.int p.uw) m = .ok (.int (2 * p.uw)) m := fun m => mul_l (by omega)
  have x3 : ∀ m, pureF F_is_linked [p.obj] m = .ok (.bl (p.us == 1 || (p.un == p.ln && p.ls % p.us == 0))) m := fun m => p_linked ok
  have x4 : ∀ m, evMth "Pair" (Str.ofString "") (noxF F_Pair_top) p.obj [] m = .ok (.tup [.int p.us, .int p.uw, .int p.un]) m := fun m => pr_top
  have hh := hr_hears ok
  have h2 := ok.n2.1
  unfold waysD leastP leastI
  generalize p.obj = o at *
  generalize p.hr.d = h at *
  generalize p.us = us at *
  generalize p.uw = uw at *
  generalize p.un = un at *
  generalize p.ls = ls at *
  generalize p.ln = ln at *
  have sn : ¬ (Str.ofString "moved" = Str.ofString "misses") := by decide +kernel
  have w0 : ¬ (uw = 0) := by omega
  rcases hh with rfl | rfl | ⟨e, rfl, g0, g1⟩
  · by_cases c1 : us = 1 <;> by_cases c4 : un = ln <;> by_cases c5 : ls % us = 0 <;> by_cases c2 : uw = 1 <;>
      simp [F_ways_for, runF, ps_ways_for, N_ways_for, s_ways_for, exs, ex, ev, evs, evAnd, evOr, asgn, at0, at1, at2, x3, x4, c1, c2, c4, c5]
  · by_cases c1 : us = 1 <;> by_cases c4 : un = ln <;> by_cases c5 : ls % us = 0 <;> by_cases c2 : uw = 1 <;>
      simp [F_ways_for, runF, ps_ways_for, N_ways_for, s_ways_for, exs, ex, ev, evs, evAnd, evOr, asgn, at0, at1, at2, x3, x4, c1, c2, c4, c5, in_moved', sn, w0]
  · have w3 : ¬ uw = 1 → ¬ (2 * uw + e - 2 = 0) := by omega
    by_cases c3 : e = 0 <;> by_cases c1 : us = 1 <;> by_cases c4 : un = ln <;> by_cases c5 : ls % us = 0 <;> by_cases c2 : uw = 1 <;>
      simp [F_ways_for, runF, ps_ways_for, N_ways_for, s_ways_for, exs, ex, ev, evs, evAnd, evOr, asgn, at0, at1, at2, x2, x3, x4, c1, c2, c3, c4, c5, in_each', eq_each, w0, w3]
theorem pp_ways {p : SH.Pr} (ok : p.Ok) {m : Sto} : pureF F_ways_for [p.obj, p.hr.d] m = .ok (waysD p) m :=
  pure_ok (by simp [D.closeds, obj_closed, hrd_closed]) (p_ways ok) (by unfold waysD; split <;> rfl)
theorem p_enough {p : SH.Pr} (ok : p.Ok) {m : Sto} : pureF F_is_enough [p.obj, p.hr.d] m = .ok (.bl (dueP p)) m := pure_ok (m1 := []) (by simp [D.closeds, obj_closed, hrd_closed]) (by
  have x0 : ∀ m, pureF F_ways_for [p.obj, p.hr.d] m = .ok (waysD p) m := fun m => pp_ways ok
  have x2 : ∀ m, evMth "Pair" (Str.ofString "") (noxF F_Pair_bottom) p.obj [] m = .ok (.tup [.int p.ls, .int p.lw, .int p.ln]) m := fun m => pr_bot
  have nn : 0 ≤ leastP p := by
    have hh := hr_hears ok
    have h2 := ok.n2.1
    unfold leastP leastI
    generalize p.hr.d = h at *
    generalize p.uw = uw at *
    rcases hh with rfl | rfl | ⟨e, rfl, g0, g1⟩ <;> dsimp only <;> repeat' split <;> try omega
    all_goals (try split) <;> omega
  unfold dueP
  unfold waysD at x0
  generalize p.obj = o at *
  generalize p.hr.d = h at *
  by_cases c : leastP p = 0
  · have x1 : ∀ m, pureF F_ways_for [o, h] m = .ok .non m := fun m => by have := x0 m; rwa [if_pos c] at this
    rw [c]
    simp [F_is_enough, runF, ps_is_enough, N_is_enough, s_is_enough, exs, ex, ev, evs, evAnd, asgn, x1]
    try rfl
  · have x1 : ∀ m, pureF F_ways_for [o, h] m = .ok (.int (leastP p)) m := fun m => by have := x0 m; rwa [if_neg c] at this
    have : 0 < leastP p := by omega
    simp [F_is_enough, runF, ps_is_enough, N_is_enough, s_is_enough, exs, ex, ev, evs, evAnd, asgn, x1, x2, at1, this]
    try rfl) rfl
end PQ
set_option Elab.async false
set_option linter.all false
set_option maxRecDepth 100000
set_option maxHeartbeats 4000000
namespace PQ
open PySem PySem.Spec L2 ME PG
theorem same_pr {x : Str} (h : Same x) : ((∀ m, pureF F_read_pair [.str x] m = .ok .non m) ∧ (∀ m, pureF F__law_read [.str x] m = .ok (.tup []) m)) ∨
    (∃ p : SH.Pr, p.Ok ∧ (∀ m, pureF F_read_pair [.str x] m = .ok p.mine m) ∧ (∀ m, pureF F__law_read [.str x] m = .ok p.mine m)) := by
  rcases h with h | ⟨us, uw, un, ls, lw, ln, h, hm, a, b⟩
  · exact .inl h
  · obtain ⟨p, ok, e⟩ := mi_pr hm
    exact .inr ⟨p, ok, fun m => (a m).trans (by rw [e]), fun m => (b m).trans (by rw [e])⟩
section
variable {x w : Str} {p : SH.Pr} {c : D} {m : Sto}
theorem ps_none (r : ∀ m, pureF F_read_pair [.str x] m = .ok .non m) (hc : c.closed = true) : pureF F_pair_shown [.str w, .str x, c] m = .ok (.bl false) m := pure_ok (m1 := []) (by simp [D.closeds, D.closed, hc]) (by
  simp [F_pair_shown, runF, ps_pair_shown, N_pair_shown, s_pair_shown, exs, ex, ev, evs, evL, evl, evAnd, asgn, newG, r]
  try rfl) rfl
theorem isn_mine : evCmp .Is p.mine .non m = .ok (.bl false) m := rfl
theorem mi0 : evIdx p.mine (.int 0) m = .ok p.up m := by kernel_rfl
theorem mi1 : evIdx p.mine (.int 1) m = .ok p.lo m := by kernel_rfl
theorem mi2 : evIdx p.mine (.int 2) m = .ok p.hr.d m := by kernel_rfl
theorem emp (ds : List D) (hc : D.closeds ds = true) : pureF F_is_empty [.tup ds] m = .ok (.bl (ds.isEmpty)) m := pure_ok (m1 := []) (by simp [D.closeds, D.closed, hc]) (by
  cases ds with
  | nil => kernel_rfl
  | cons d ds =>
    have : ¬ ((ds.length : Int) + 1 = 0) := by omega
    simp [F_is_empty, runF, ps_is_empty, N_is_empty, s_is_empty, exs, ex, ev, evs, evAnd, evIsi, tyOf, bRes, kit_tuple_tuple, this]) rfl
theorem ps_never (ok : p.Ok) (r : ∀ m, pureF F_read_pair [.str x] m = .ok p.mine m) {ds : List D} (hc : D.closeds ds = true) :
    pureF F_pair_shown [.str "never", .str x, .tup ds] m = .ok (.bl (ds.isEmpty && dueP p)) m := pure_ok (m1 := []) (by simp [D.closeds, D.closed, hc]) (by
  have e1 : ∀ m, pureF F_is_empty [.tup ds] m = .ok (.bl (ds.isEmpty)) m := fun m => emp ds hc
  have e2 : ∀ m, pureF F_is_enough [p.obj, p.hr.d] m = .ok (.bl (dueP p)) m := fun m => p_enough ok
  have e3 : ∀ m, pureF (fun ds m => evNew "Pair" F_Pair_init ds m) [p.up, p.lo, p.hr.d] m = .ok p.obj m := fun m => p_new ok
  have e4 : ∀ m, evMth "Pair" (Str.ofString "") (noxF F_Pair_hears) p.obj [] m = .ok p.hr.d m := fun m => pr_hears
  generalize ds.isEmpty = b at *
  have i1 : ∀ m, evCmp .Is p.mine .non m = .ok (.bl false) m := fun m => isn_mine
  have i2 : ∀ m, evIdx p.mine (.int 0) m = .ok p.up m := fun m => mi0
  have i3 : ∀ m, evIdx p.mine (.int 1) m = .ok p.lo m := fun m => mi1
  have i4 : ∀ m, evIdx p.mine (.int 2) m = .ok p.hr.d m := fun m => mi2
  generalize p.mine = pm at *
  generalize p.obj = po at *
  cases b <;> (simp [F_pair_shown, runF, ps_pair_shown, N_pair_shown, s_pair_shown, exs, ex, ev, evs, evL, evl, evAnd, asgn, newG, r, e1, e2, e3, e4, i1, i2, i3, i4]; try rfl)) rfl
theorem lays_ints : ∀ l : List Int, D.lays (l.map D.int) = true ∧ D.deps (l.map D.int) = 0
  | [] => ⟨rfl, rfl⟩
  | a :: l => by
    have := lays_ints l
    simp [D.lays, D.lay, D.deps, D.dep, this]
theorem ne_ints {l : List Int} : evCmp .NotEq (.tup (l.map D.int)) (.tup []) m = .ok (.bl (!decide (l = []))) m := by
  obtain ⟨h1, h2⟩ := lays_ints l
  show bRes m ((eqD m (.tup (l.map D.int)) (.tup [])).map not) = _
  have : eqD m (.tup (l.map D.int)) (.tup []) = some (decide (l = [])) := by
    unfold eqD
    rw [if_neg (by simp [D.scal, D.flat])]
    rw [if_pos (by simp [seen, lstOfR, lstOf, okEq, D.lay, D.dep, h1, h2, D.lays, D.deps])]
    cases l <;> simp [seen, lstOfR, lstOf, D.eqv, D.eqvs]
  rw [this]; rfl
theorem cl_ints : ∀ l : List Int, D.closeds (l.map D.int) = true
  | [] => rfl
  | a :: l => by simp [D.closeds, D.closed, cl_ints l]
theorem ps_ever (ok : p.Ok) (r : ∀ m, pureF F_read_pair [.str x] m = .ok p.mine m) {row : List Int} (hl : row.length ≤ 4000) (hb : ∀ i ∈ row, i.natAbs < big)
    (wa : ∀ m, pureF F_wrong_ask [.tup (row.map D.int)] m = .ok (.tup []) m) :
    pureF F_pair_shown [.str "ever", .str x, .tup (row.map D.int)] m = .ok (.bl (!decide (SH.lonely p (SH.runN p row) = []))) m := by
  have sm := SH.run_small (p := p) row SH.small0
  have bd : ∀ (row : List Int) (s : SH.Sh), Bd s → (∀ i ∈ row, i.natAbs < big) → Bd (row.foldl (SH.askN p) s) := by
    intro row
    induction row with
    | nil => intro s h _; exact h
    | cons a row ih => intro s h hb; exact ih _ (bd_ask ok h (hb a (by simp))) (fun i hi => hb i (by simp [hi]))
  have bd1 := bd row SH.sh0 bd0 hb
  have lo : ∀ m rest, F_Run_lonely [.ref m.length] (m ++ runC p false m.length (SH.runN p row) rest) = .ok (.tup ((SH.lonely p (SH.runN p row)).map D.int)) (m ++ runC p false m.length (SH.runN p row) rest) := fun m rest => e_lonely (pre := m) (rest := rest) ok sm bd1 (by omega)
  have inl : ∀ m rest, insIs "Run" "lonely" (.ref m.length) (m ++ runC p false m.length (SH.runN p row) rest) = true := fun m rest => ri_lonely
  have ro := fun m => e_run_of (m := m) ok (row := row) (by omega)
  have e3 : ∀ m, pureF (fun ds m => evNew "Pair" F_Pair_init ds m) [p.up, p.lo, p.hr.d] m = .ok p.obj m := fun m => p_new ok
  have e4 : ∀ m, evCmp .NotEq (.tup ((SH.lonely p (SH.runN p row)).map D.int)) (.tup []) m = .ok (.bl (!decide (SH.lonely p (SH.runN p row) = []))) m := fun m => ne_ints
  have e5 : ∀ m, evCmp .Eq (.tup []) (.tup []) m = .ok (.bl true) m := fun m => by kernel_rfl
  have ti : ∀ a b m, evIdx (.tup [.ref a, .ref b]) (.int 0) m = .ok (.ref a) m := fun a b m => by kernel_rfl
  refine pure_ok (by simp [D.closeds, D.closed, cl_ints]) (m1 := runC p false 0 (SH.runN p row) [.lst ((tellsOf p SH.sh0 row).map encT)]) ?_ rfl
  have mt0 := lo [] [.lst ((tellsOf p SH.sh0 row).map encT)]
  have in0 := inl [] [.lst ((tellsOf p SH.sh0 row).map encT)]
  have ro0 := ro []
  simp only [List.length_nil, List.nil_append] at mt0 ro0 in0
  generalize (runC p false 0 (SH.runN p row) [.lst ((tellsOf p SH.sh0 row).map encT)]) = M at *
  have i1 : ∀ m, evCmp .Is p.mine .non m = .ok (.bl false) m := fun m => isn_mine
  have i2 : ∀ m, evIdx p.mine (.int 0) m = .ok p.up m := fun m => mi0
  have i3 : ∀ m, evIdx p.mine (.int 1) m = .ok p.lo m := fun m => mi1
  have i4 : ∀ m, evIdx p.mine (.int 2) m = .ok p.hr.d m := fun m => mi2
  clear inl ro lo
  generalize p.mine = pm at *
  generalize p.obj = po at *
  generalize (D.tup ((SH.lonely p (SH.runN p row)).map D.int)) = dd at *
  generalize (!decide (SH.lonely p (SH.runN p row) = [])) = bb at *
  have nn : ¬ (Str.ofString "ever" = Str.ofString "never") := by decide +kernel
  simp [F_pair_shown, runF, ps_pair_shown, N_pair_shown, s_pair_shown, exs, ex, ev, evs, evL, evl, evAnd, asgn, newG, nn, r, e3, e4, e5, i1, i2, i3, i4, wa, ro0, mt0, in0, ti]
theorem ac_two {a b : D} (h : D.closeds [a, b, c] = true) {r : D} (hr : r.closed = true) (e : ∀ m, pureF F_pair_shown [a, b, c] m = .ok r m) : pureF F_accepts [.tup [a, b], c] m = .ok r m := pure_ok (m1 := []) (by
    simp [D.closeds, D.closed] at h ⊢; exact ⟨⟨h.1, h.2.1⟩, h.2.2⟩) (by
  simp [F_accepts, runF, ps_accepts, N_accepts, s_accepts, exs, ex, ev, evs, evIsi, tyOf, bRes, kit_tuple_tuple, at0, at1, e]) hr
end
end PQ
set_option Elab.async false
set_option linter.all false
set_option maxRecDepth 100000
set_option maxHeartbeats 4000000
namespace PQ
open PySem PySem.Spec L2 ME PG
/-! ### the small rows -/
theorem wa0 {m : Sto} : pureF F_wrong_ask [.tup (([] : List Int).map D.int)] m = .ok (.tup []) m := pure_ok (m1 := []) rfl (by kernel_rfl) rfl
theorem wa1 {m : Sto} : pureF F_wrong_ask [.tup (([0] : List Int).map D.int)] m = .ok (.tup []) m := pure_ok (m1 := []) rfl (by kernel_rfl) rfl
abbrev T70 : Int := 9999999999999999999999999999999999999999999999999999999999999999999999
theorem wa2 {i : Int} {m : Sto} (h0 : 0 ≤ i) (h : i ≤ T70) : pureF F_wrong_ask [.tup (([0, i] : List Int).map D.int)] m = .ok (.tup []) m := pure_ok (m1 := []) rfl (by
  have y1 : ∀ m, pureF F_is_within [.int 0, .int 0, .int 9999999999999999999999999999999999999999999999999999999999999999999999] m = .ok (.bl true) m := fun m => p_within (by decide) (by decide)
  have y2 : ∀ m, pureF F_is_within [.int i, .int 0, .int 9999999999999999999999999999999999999999999999999999999999999999999999] m = .ok (.bl true) m := fun m => p_within h0 h
  simp [F_wrong_ask, runF, ps_wrong_ask, N_wrong_ask, s_wrong_ask, exs, ex, ev, evs, evOr, evIt, itEnum, forLoop, Itm.chk, asgn, asgns, seqOf, evIsi, tyOf, bRes, kit_tuple_tuple, y1, y2]
  try rfl) rfl
open SH in
theorem lone0 {p : Pr} : lonely p (SH.runN p []) = [] := by simp [lonely, lonelyL, SH.runN, sh0, sortI]
open SH in
theorem sort1 {i : Int} : sortI [i] = [i] := by simp [sortI]
open SH in
theorem lone1 {p : Pr} (ok : p.Ok) : lonely p (SH.runN p [0]) = [] := by
  have a : isHit p 0 sh0 = false := by simp [isHit, sh0, rowOf, alGet]
  have b : SH.runN p [0] = askMiss p 0 sh0 := by simp [SH.runN, askN, a]
  rw [b]
  simp [lonely, askMiss, hear, sh0, rowOf, alGet, alPut, alHas, lonelyL, isLone, sortI]
open SH in
theorem lone2 {p : Pr} (ok : p.Ok) (h1 : p.us = 1) (h2 : 2 ≤ p.uw) (h3 : p.lw = 1) : lonely p (SH.runN p [0, p.ls * p.ln]) = [0] := by
  obtain ⟨us, uw, un, ls, lw, ln, hr⟩ := p
  dsimp only at h1 h2 h3
  subst h1; subst h3
  have n3 : 1 ≤ un := ok.n3.1
  have n4 : 1 ≤ ls := ok.n4.1
  have n6 : 1 ≤ ln := ok.n6.1
  have dv : ln % un = 0 := ok.dv
  obtain ⟨q, hq⟩ : ∃ q, ln = un * q := ⟨ln / un, (Int.mul_ediv_cancel' (Int.dvd_of_emod_eq_zero dv)).symm⟩
  have q1 : 1 ≤ q := by
    by_cases c : 1 ≤ q
    · exact c
    · have : un * q ≤ un * 0 := Int.mul_le_mul_of_nonneg_left (by omega) (by omega)
      omega
  have e1 : ls * ln / un = ls * q := by
    rw [hq, show ls * (un * q) = un * (ls * q) by rw [← Int.mul_assoc, Int.mul_comm ls un, Int.mul_assoc]]
    exact Int.mul_ediv_cancel_left _ (by omega)
  have e2 : ls * ln / ln = ls := Int.mul_ediv_cancel _ (by omega)
  have e3 : 1 ≤ ls * q := by
    have : 1 * 1 ≤ ls * q := Int.mul_le_mul n4 q1 (by decide) (by omega)
    omega
  have e4 : ls * q * un / ln = ls := by
    rw [show ls * q * un = ls * ln by rw [hq, Int.mul_assoc, Int.mul_comm q un]]
    exact e2
  have ne1 : ¬ (ls * q = 0) := by omega
  have ne2 : ¬ (ls = 0) := by omega
  have ne3 : ¬ (0 = ls) := by omega
  have ne4 : ¬ ((1 : Int) = uw) := by omega
  have a : isHit ⟨1, uw, un, ls, 1, ln, hr⟩ 0 sh0 = false := by simp [isHit, sh0, rowOf, alGet]
  have b : SH.runN ⟨1, uw, un, ls, 1, ln, hr⟩ [0, ls * ln] = askN ⟨1, uw, un, ls, 1, ln, hr⟩ (askMiss ⟨1, uw, un, ls, 1, ln, hr⟩ 0 sh0) (ls * ln) := by simp [SH.runN, askN, a]
  have c : isHit ⟨1, uw, un, ls, 1, ln, hr⟩ (ls * ln) (askMiss ⟨1, uw, un, ls, 1, ln, hr⟩ 0 sh0) = false := by
    simp [isHit, askMiss, hear, sh0, rowOf, alGet, alPut, alHas, e1, Int.emod_one, ne1]
  rw [b]
  simp [askN, c]
  simp [lonely, askMiss, hear, sh0, rowOf, alGet, alPut, alHas, lonelyL, isLone, e1, e2, e4, Int.emod_one, ne1, ne2, ne3, ne4]
  try exact sort1
end PQ
set_option Elab.async false
set_option linter.all false
set_option maxRecDepth 100000
set_option maxHeartbeats 4000000
namespace PQ
open PySem PySem.Spec L2 ME PG
abbrev N60 : Int := 1000000000000000000000000000000000000000000000000000000000000
abbrev N69 : Int := 1000000000000000000000000000000000000000000000000000000000000000000000
theorem pw60 {m : Sto} : evBin .Pow (.int 10) (.int 60) m = .ok (.int N60) m := by kernel_rfl
theorem mu69 {m : Sto} : evBin .Mult (.int N60) (.int 1000000000) m = .ok (.int N69) m := by kernel_rfl
theorem ne_mine {p : SH.Pr} {m : Sto} : evCmp .NotEq p.mine (.tup []) m = .ok (.bl true) m := by
  obtain ⟨us, uw, un, ls, lw, ln, hr⟩ := p
  cases hr <;> kernel_rfl
theorem eq_mine {p : SH.Pr} {m : Sto} : evCmp .Eq p.mine (.tup []) m = .ok (.bl false) m := by
  obtain ⟨us, uw, un, ls, lw, ln, hr⟩ := p
  cases hr <;> kernel_rfl
theorem rep_t {m : Sto} : evBf .repr [.bl true] m = .ok (.str "True") m := by kernel_rfl
theorem rep_f {m : Sto} : evBf .repr [.bl false] m = .ok (.str "False") m := by kernel_rfl
theorem ne_reps {b : Bool} {m : Sto} : (evBf .repr [.bl b] m).bind (fun a m1 => (evBf .repr [.bl b] m1).bind fun c m2 => evCmp .NotEq a c m2) = .ok (.bl false) m := by cases b <;> kernel_rfl
theorem cl3 {a b : Str} {ds : List Int} : D.closeds [.str a, .str b, .tup (ds.map D.int)] = true := by simp [D.closeds, D.closed, cl_ints]
theorem nn_ev : ¬ (Str.ofString "ever" = Str.ofString "never") := by decide +kernel
theorem big0 : (0 : Int).natAbs < big := by show 0 < big; decide +kernel
theorem e_line {x : Str} (hx : Ok x 1000000) {m : Sto} : pureF F__law_line_right_k84 [.str x] m = .ok (.bl true) m := pure_ok (m1 := []) (by simp [D.closeds, D.closed]) (by
  rcases same_pr (e_read hx) with ⟨r1, r2⟩ | ⟨p, ok, r1, r2⟩
  · have a1 : ∀ m, pureF F_accepts [.tup [.str "never", .str x], .tup []] m = .ok (.bl false) m := fun m => ac_two (by simp [D.closeds, D.closed]) rfl (fun m => ps_none r1 rfl)
    have a2 : ∀ m, pureF F_accepts [.tup [.str "ever", .str x], .tup []] m = .ok (.bl false) m := fun m => ac_two (by simp [D.closeds, D.closed]) rfl (fun m => ps_none r1 rfl)
    have a3 : ∀ m, pureF F_accepts [.tup [.str "ever", .str x], .tup [.int 0]] m = .ok (.bl false) m := fun m => ac_two (by simp [D.closeds, D.closed]) rfl (fun m => ps_none r1 rfl)
    have a4 : ∀ m, pureF F_accepts [.tup [.str "never", .str x], .tup [.int 0]] m = .ok (.bl false) m := fun m => ac_two (by simp [D.closeds, D.closed]) rfl (fun m => ps_none r1 rfl)
    have a5 : ∀ m, pureF F_accepts [.tup [.str "ever", .str x], .tup [.int 0, .int 1]] m = .ok (.bl false) m := fun m => ac_two (by simp [D.closeds, D.closed]) rfl (fun m => ps_none r1 rfl)
    have e5 : ∀ m, evCmp .Eq (.tup []) (.tup []) m = .ok (.bl true) m := fun m => by kernel_rfl
    simp [F__law_line_right_k84, runF, ps__law_line_right_k84, N__law_line_right_k84, s__law_line_right_k84, exs, ex, ev, evs, evOr, evAnd, asgn, r2, a1, a2, a3, a4, a5, ne_tt0, e5, rep_f]
    try rfl
  · have hc : ∀ ds : List Int, D.closeds (ds.map D.int) = true := cl_ints
    have a1 : ∀ m, pureF F_accepts [.tup [.str "never", .str x], .tup []] m = .ok (.bl (dueP p)) m := fun m => ac_two (by simp [D.closeds, D.closed]) rfl (fun m => by simpa using ps_never (ds := []) (m := m) ok r1 rfl)
    have a2 : ∀ m, pureF F_accepts [.tup [.str "ever", .str x], .tup []] m = .ok (.bl false) m := fun m => ac_two (by simp [D.closeds, D.closed]) rfl (fun m => by simpa [lone0] using ps_ever (m := m) ok r1 (row := []) (by decide) (by simp) (fun m => wa0))
    have a3 : ∀ m, pureF F_accepts [.tup [.str "ever", .str x], .tup [.int 0]] m = .ok (.bl false) m := fun m => ac_two (by simp [D.closeds, D.closed]) rfl (fun m => by simpa [lone1 ok] using ps_ever (m := m) ok r1 (row := [0]) (by decide) (fun i hi => by rw [List.mem_singleton.mp hi]; exact big0) (fun m => wa1))
    have a4 : ∀ m, pureF F_accepts [.tup [.str "never", .str x], .tup [.int 0]] m = .ok (.bl false) m := fun m => ac_two (by simp [D.closeds, D.closed]) rfl (fun m => by simpa using ps_never (ds := [.int 0]) (m := m) ok r1 rfl)
    have l1 : ∀ m, pureF F__law_least [p.mine] m = .ok (.int (leastP p)) m := fun m => pp_least ok.n1.1 (hr_hears ok)
    have m1 : ∀ m, evBin .Mult (.int p.ls) (.int p.ln) m = .ok (.int (p.ls * p.ln)) m := fun m => mul_w (num_nat ok.n4) (num_nat ok.n6)
    have m2 : ∀ m, evBin .Mult (.int (p.ls * p.ln)) (.int 2) m = .ok (.int (p.ls * p.ln * 2)) m := fun m => mul_r (by omega)
    have a5 : ¬ (1 < p.lw) → ¬ (p.uw < 2) → ¬ (N69 ≤ p.ls * p.ln * 2) → p.us = 1 → ∀ m, pureF F_accepts [.tup [.str "ever", .str x], .tup [.int 0, .int (p.ls * p.ln)]] m = .ok (.bl true) m := fun q1 q2 q3 q4 m => by
      have s0 : 0 ≤ p.ls * p.ln := Int.mul_nonneg (by have := ok.n4.1; omega) (by have := ok.n6.1; omega)
      have q3' : p.ls * p.ln * 2 < 1000000000000000000000000000000000000000000000000000000000000000000000 := Int.not_le.mp q3
      refine ac_two (by simp [D.closeds, D.closed]) rfl (fun m => ?_)
      have := ps_ever (m := m) ok r1 (row := [0, p.ls * p.ln]) (by simp) (fun i hi => by
        have b70 : (10 : Nat) ^ 70 < big := by decide +kernel
        rcases List.mem_cons.mp hi with rfl | hi
        · exact big0
        · rw [List.mem_singleton.mp hi]
          refine Nat.lt_of_lt_of_le (m := 10 ^ 70) ?_ (Nat.le_of_lt b70)
          generalize p.ls * p.ln = s at *
          omega) (fun m => wa2 s0 (by show p.ls * p.ln ≤ 9999999999999999999999999999999999999999999999999999999999999999999999; generalize p.ls * p.ln = s at *; omega))
      rw [lone2 ok q4 (by omega) (by have := ok.n5.1; omega)] at this
      simpa using this
    have nm : ∀ m, evCmp .NotEq p.mine (.tup []) m = .ok (.bl true) m := fun m => ne_mine
    have em : ∀ m, evCmp .Eq p.mine (.tup []) m = .ok (.bl false) m := fun m => eq_mine
    have i1 : ∀ m, evIdx p.mine (.int 0) m = .ok (.tup [.int p.us, .int p.uw, .int p.un]) m := fun m => mi0
    have i2 : ∀ m, evIdx p.mine (.int 1) m = .ok (.tup [.int p.ls, .int p.lw, .int p.ln]) m := fun m => mi1
    have du : dueP p = (decide (0 < leastP p) && decide (leastP p ≤ p.lw)) := rfl
    clear hc
    generalize p.mine = pm at *
    have key : ∀ b : Bool, dueP p = b → F__law_line_right_k84 [.str x] [] = .ok (.bl true) [] := fun b hb => by
      rw [hb] at a1
      have du2 := du.symm.trans hb
      have rr : ∀ m, evBf .repr [.bl b] m = .ok (.str (if b = true then "True" else "False")) m := fun m => by cases b <;> kernel_rfl
      have cc : ∀ m, evCmp .NotEq (.str (if b = true then "True" else "False")) (.str (if b = true then "True" else "False")) m = .ok (.bl false) m := fun m => by cases b <;> kernel_rfl
      by_cases q1 : 1 < p.lw
      · by_cases z1 : 0 < leastP p <;> by_cases z2 : leastP p ≤ p.lw <;> simp [z1, z2] at du2 <;> subst du2 <;>
          (simp [F__law_line_right_k84, runF, ps__law_line_right_k84, N__law_line_right_k84, s__law_line_right_k84, exs, ex, ev, evs, evOr, evAnd, asgn, r2, a1, a2, a3, a4, l1, m1, m2, nm, em, i1, i2, at0, at1, at2, z1, z2, rep_t, rep_f, q1, pw60, mu69, pw9]; try rfl)
      · by_cases q2 : p.uw < 2
        · by_cases z1 : 0 < leastP p <;> by_cases z2 : leastP p ≤ p.lw <;> simp [z1, z2] at du2 <;> subst du2 <;>
            (simp [F__law_line_right_k84, runF, ps__law_line_right_k84, N__law_line_right_k84, s__law_line_right_k84, exs, ex, ev, evs, evOr, evAnd, asgn, r2, a1, a2, a3, a4, l1, m1, m2, nm, em, i1, i2, at0, at1, at2, z1, z2, rep_t, rep_f, q1, q2, pw60, mu69, pw9]; try rfl)
        · by_cases q3 : N69 ≤ p.ls * p.ln * 2
          · by_cases z1 : 0 < leastP p <;> by_cases z2 : leastP p ≤ p.lw <;> simp [z1, z2] at du2 <;> subst du2 <;>
              (simp [F__law_line_right_k84, runF, ps__law_line_right_k84, N__law_line_right_k84, s__law_line_right_k84, exs, ex, ev, evs, evOr, evAnd, asgn, r2, a1, a2, a3, a4, l1, m1, m2, nm, em, i1, i2, at0, at1, at2, z1, z2, rep_t, rep_f, q1, q2, q3, pw60, mu69, pw9]; try rfl)
          · by_cases q4 : p.us = 1
            · have a6 := a5 q1 q2 q3 q4
              by_cases z1 : 0 < leastP p <;> by_cases z2 : leastP p ≤ p.lw <;> simp [z1, z2] at du2 <;> subst du2 <;>
                (simp [F__law_line_right_k84, runF, ps__law_line_right_k84, N__law_line_right_k84, s__law_line_right_k84, exs, ex, ev, evs, evOr, evAnd, asgn, r2, a1, a2, a3, a4, a6, l1, m1, m2, nm, em, i1, i2, at0, at1, at2, z1, z2, rep_t, rep_f, q1, q2, q3, q4, pw60, mu69, pw9]; try rfl)
            · by_cases z1 : 0 < leastP p <;> by_cases z2 : leastP p ≤ p.lw <;> simp [z1, z2] at du2 <;> subst du2 <;>
                (simp [F__law_line_right_k84, runF, ps__law_line_right_k84, N__law_line_right_k84, s__law_line_right_k84, exs, ex, ev, evs, evOr, evAnd, asgn, r2, a1, a2, a3, a4, l1, m1, m2, nm, em, i1, i2, at0, at1, at2, z1, z2, rep_t, rep_f, q1, q2, q3, q4, pw60, mu69, pw9]; try rfl)
    exact key _ rfl) rfl
end PQ
set_option Elab.async false
set_option linter.all false
set_option maxRecDepth 100000
set_option maxHeartbeats 4000000
namespace PQ
open PySem PySem.Spec L2 ME PG
/-! ### bent texts -/
theorem Ok.mono {x : Str} {K L : Nat} (h : Ok x K) (hl : K ≤ L) : Ok x L := ⟨h.so, Nat.le_trans h.len hl⟩
theorem ok_app {x y : Str} {K L : Nat} (h : Ok x K) (g : Ok y L) : Ok (x ++ y) (K + L) := by
  refine ⟨?_, ?_⟩
  · have h1 := so_iff.mp h.so
    have h2 := so_iff.mp g.so
    rw [so_iff, TL.tl_append]
    intro c hc
    rcases List.mem_append.mp hc with q | q
    · exact h1 c q
    · exact h2 c q
  · rw [TL.len_tl, TL.tl_append, List.length_append, ← TL.len_tl, ← TL.len_tl]
    exact Nat.add_le_add h.len g.len
theorem ok_cut {x : Str} {K : Nat} {lo hi : Option Int} (h : Ok x K) : Ok (cutS x lo hi) K := by
  refine ⟨?_, Nat.le_trans (cutS_length x lo hi) h.len⟩
  have h1 := so_iff.mp h.so
  rw [so_iff]
  intro c hc
  exact h1 c (List.mem_of_mem_drop (List.mem_of_mem_take hc))
theorem cut_str {x : Str} {lo hi : Option Int} {m : Sto} (h : x.length ≤ 16777216) : evSlc (.str x) lo hi m = .ok (.str (cutS x lo hi)) m := by
  show (if x.length ≤ 16777216 then Res.ok (D.str (cutS x lo hi)) m else .stuck) = _
  rw [if_pos h]
theorem add_str {x y : Str} {m : Sto} (h : x.length + y.length ≤ 16777216) : evBin .Add (.str x) (.str y) m = .ok (.str (x ++ y)) m := by
  show (if x.length + y.length ≤ 16777216 then Res.ok (D.str (x ++ y)) m else .stuck) = _
  rw [if_pos h]
theorem sign_at {x : Str} {K : Nat} (hx : Ok x K) (hK : K ≤ 16777216) {t : Int} (h0 : 0 ≤ t) (h1 : t < x.length) : ∃ s, Ok s 1 ∧ ∀ m, evIdx (.str x) (.int t) m = .ok (.str s) m := by
  have hl : t.toNat < (TL.tl x).length := by rw [← TL.len_tl]; omega
  refine ⟨⟨#[(TL.tl x)[t.toNat]]⟩, ⟨?_, Nat.le_refl 1⟩, fun m => ?_⟩
  · rw [so_iff]
    intro c hc
    have : c = (TL.tl x)[t.toNat] := by simpa [TL.tl] using hc
    rw [this]
    exact so_iff.mp hx.so _ (List.getElem_mem hl)
  · show (if x.length ≤ 16777216 then (match atI x.cps.toList t with
      | some c => Res.ok (D.str ⟨#[c]⟩) m
      | none => .stuck) else .stuck) = _
    rw [if_pos (Nat.le_trans hx.len hK), atG (i := t.toNat) (List.getElem?_eq_getElem hl) (by omega)]
/-- lists of texts -/
def wD (l : List Str) : D := .lst (l.map D.str)
theorem w_len {l : List Str} {m : Sto} : evBf .len [wD l] m = .ok (.int l.length) m := by simp [wD]
theorem w_to {l : List Str} {s : Nat} {m : Sto} : evSlc (wD l) none (some (s : Int)) m = .ok (wD (l.take s)) m := by
  unfold wD; rw [slc_0n, List.map_take]
theorem w_from {l : List Str} {s : Nat} {m : Sto} : evSlc (wD l) (some (s : Int)) none m = .ok (wD (l.drop s)) m := by
  unfold wD; rw [slc_n0, List.map_drop]
theorem w_from1 {l : List Str} {s : Nat} {m : Sto} : evSlc (wD l) (some ((s : Int) + 1)) none m = .ok (wD (l.drop (s + 1))) m := w_from (s := s + 1)
theorem w_mid {l : List Str} {s : Nat} {m : Sto} (h : s + 1 ≤ l.length) : evSlc (wD l) (some (s : Int)) (some ((s : Int) + 1)) m = .ok (wD ((l.drop s).take 1)) m := by
  have := slc_nn (xs := l.map D.str) (a := s) (b := s + 1) (m := m) (by omega) (by simpa using h)
  rw [show s + 1 - s = 1 by omega] at this
  unfold wD
  rw [List.map_take, List.map_drop]
  exact this
theorem w_add {a b : List Str} {m : Sto} (h : a.length + b.length ≤ 16777216) : evBin .Add (wD a) (wD b) m = .ok (wD (a ++ b)) m := by
  show (if (a.map D.str).length + (b.map D.str).length ≤ 16777216 then Res.ok (D.lst (a.map D.str ++ b.map D.str)) m else .stuck) = _
  rw [if_pos (by simpa using h), ← List.map_append]; rfl
theorem w_two {a : List Str} {m : Sto} (h : a.length ≤ 1000) : evBin .Mult (wD a) (.int 2) m = .ok (wD (a ++ a)) m := by
  show (if 0 ≤ (2 : Int) ∧ (2 : Int) < 1000000 ∧ (a.map D.str).length * (2 : Int).toNat ≤ 16777216 then Res.ok (D.lst (List.replicate (2 : Int).toNat (a.map D.str)).flatten) m else .stuck) = _
  rw [if_pos ⟨by decide, by decide, by simp; omega⟩]
  unfold wD
  rw [show (2 : Int).toNat = 2 from rfl]
  simp [List.replicate]
theorem wsum_app {a b : List Str} : wsum (a ++ b) = wsum a + wsum b := by simp [wsum]
theorem wsum_take {a : List Str} {s : Nat} : wsum (a.take s) + wsum (a.drop s) = wsum a := by
  rw [← wsum_app, List.take_append_drop]
theorem w_join {l : List Str} {m : Sto} (h : wsum l ≤ 16777216) : evBm .join (.str " ") [wD l] m = .ok (.str (Txt.join " " l)) m := by
  refine join_ok ?_
  have : ∀ l : List Str, (l.map Str.length).sum + l.length * 1 = wsum l := by
    intro l
    induction l with
    | nil => rfl
    | cons a l ih => simp [wsum] at ih ⊢; omega
  rw [this]; exact h
theorem joinL_mem {P : Nat → Prop} (h32 : P 32) : ∀ l : List (List Nat), (∀ p ∈ l, ∀ c ∈ p, P c) → ∀ c ∈ TL.joinL [32] l, P c
  | [], _ => by simp [TL.joinL]
  | [a], h => by simpa [TL.joinL] using h a (by simp)
  | a :: b :: l, h => by
    have ih := joinL_mem h32 (b :: l) (fun p hp => h p (by simp [hp]))
    have ha := h a (by simp)
    intro c hc
    simp [TL.joinL] at hc
    rcases hc with hc | rfl | hc
    · exact ha c hc
    · exact h32
    · exact ih c (by simpa [TL.joinL] using hc)
theorem join_okk {l : List Str} {K : Nat} (h : wsum l ≤ K) (hs : ∀ w ∈ l, PyData.strOk w = true) : Ok (Txt.join " " l) K := by
  refine ⟨?_, Nat.le_trans (join_len l) h⟩
  rw [so_iff, TL.join_eq, TL.tl_join, blank]
  refine joinL_mem (P := fun c => c < 1114112) (by decide) _ fun p hp => ?_
  obtain ⟨w, hw, rfl⟩ := List.mem_map.mp hp
  exact so_iff.mp (hs w hw)
theorem Pu.app {m c : Sto} {n L : Nat} (h : Pu m n L) : Pu (m ++ c) n L := by
  obtain ⟨a, b, d, q, r⟩ := h.ex
  exact ⟨a, b, d, by rw [List.getElem?_append_left (List.getElem?_eq_some_iff.mp q).1]; exact q, r⟩
theorem Rest.app {n : Nat} {m m' c : Sto} (h : Rest n m m') : Rest n m (m' ++ c) := ⟨by simp; have := h.len; omega, fun j h1 h2 => by
  rw [List.getElem?_append_left (Nat.lt_of_lt_of_le h1 h.len)]; exact h.keep j h1 h2⟩
theorem Pu.mono {m : Sto} {n L L' : Nat} (h : Pu m n L) (hl : L ≤ L') : Pu m n L' := by
  obtain ⟨a, b, d, q, r1, r2, r3, r4, r5⟩ := h.ex
  exact ⟨a, b, d, q, r1, r2, r3, r4, by omega⟩
theorem ok_lit : Ok "0" 31 ∧ Ok "1" 31 ∧ Ok "2" 31 ∧ Ok "12" 31 ∧ Ok "00" 31 ∧ Ok "moved" 31 ∧ Ok "misses" 31 ∧ Ok "each" 31 ∧ Ok "lower" 31 ∧ Ok "hears" 31 := by
  refine ⟨⟨?_, ?_⟩, ⟨?_, ?_⟩, ⟨?_, ?_⟩, ⟨?_, ?_⟩, ⟨?_, ?_⟩, ⟨?_, ?_⟩, ⟨?_, ?_⟩, ⟨?_, ?_⟩, ⟨?_, ?_⟩, ⟨?_, ?_⟩⟩ <;> decide +kernel
theorem so_sn {i : Int} (h : 0 ≤ i) : PyData.strOk (sn i) = true := by
  rw [so_iff, sn_tl h]
  intro c hc
  have := TL.numL_digits _ c hc
  omega
theorem ok_sn {i : Int} (h : 0 ≤ i) (h2 : i ≤ 1000000000000000000000000000000) : Ok (sn i) 31 := ⟨so_sn h, sn_len h h2⟩
theorem p_bent {m : Sto} {n L K : Nat} (hp : Pu m n L) (hL : L < 800000000) {x : Str} (hx : Ok x K) (hK : K ≤ 500000) :
    ∃ y m', F__law_bent_k84 [.ref n, .str x] m = .ok (.str y) m' ∧ Ok y (2 * K + 100) ∧ Pu m' n (L + 5) ∧ Rest n m m' := by
  have hxl := hx.len
  have xl6 : x.length ≤ 16777216 := by omega
  obtain ⟨way, m1, e1, w0, w1, p1, r1, l1⟩ := p_take (k := 8) hp (by omega) (by decide) (by decide)
  obtain ⟨t2, m2, e2, t20, t21, p2, r2, l2⟩ := p_take (k := (x.length : Int) + 1) p1 (by omega) (by omega) (log_small (by omega) (by
    have : (500001 : Int) < 2 ^ 1000 := by decide +kernel
    omega))
  obtain ⟨t3, m3, e3, t30, t31, p3, r3, l3⟩ := p_take (k := 21) p2 (by omega) (by decide) (by decide)
  have oks : Ok (Str.ofString " \n0123456789upmsehX-,") 21 := ⟨by decide +kernel, by decide +kernel⟩
  have okl : (Str.ofString " \n0123456789upmsehX-,").length = 21 := by decide +kernel
  obtain ⟨s, hs, hsi⟩ := sign_at oks (by decide) t30 (by rw [okl]; exact t31)
  obtain ⟨at', rfl⟩ := Int.eq_ofNat_of_zero_le t20
  have c1 : ∀ m, evSlc (.str x) none (some (at' : Int)) m = .ok (.str (cutS x none (some (at' : Int)))) m := fun m => cut_str (by omega)
  have c2 : ∀ m, evSlc (.str x) (some (at' : Int)) none m = .ok (.str (cutS x (some (at' : Int)) none)) m := fun m => cut_str (by omega)
  have c3 : ∀ m, evSlc (.str x) (some ((at' : Int) + 1)) none m = .ok (.str (cutS x (some ((at' : Int) + 1)) none)) m := fun m => cut_str (by omega)
  have k1 : Ok (cutS x none (some (at' : Int))) K := ok_cut hx
  have k2 : Ok (cutS x (some (at' : Int)) none) K := ok_cut hx
  have k3 : Ok (cutS x (some ((at' : Int) + 1)) none) K := ok_cut hx
  generalize cutS x none (some (at' : Int)) = y1 at *
  generalize cutS x (some (at' : Int)) none = y2 at *
  generalize cutS x (some ((at' : Int) + 1)) none = y3 at *
  have hy1 := k1.len
  have hy2 := k2.len
  have hy3 := k3.len
  have hsl := hs.len
  have k4 := ok_app k1 hs
  have hy4 := k4.len
  have a1 : ∀ m, evBin .Add (.str y1) (.str s) m = .ok (.str (y1 ++ s)) m := fun m => add_str (by omega)
  have a2 : ∀ m, evBin .Add (.str (y1 ++ s)) (.str y2) m = .ok (.str (y1 ++ s ++ y2)) m := fun m => add_str (by omega)
  have a3 : ∀ m, evBin .Add (.str y1) (.str y3) m = .ok (.str (y1 ++ y3)) m := fun m => add_str (by omega)
  have a4 : ∀ m, evBin .Add (.str (y1 ++ s)) (.str y3) m = .ok (.str (y1 ++ s ++ y3)) m := fun m => add_str (by omega)
  have k5 : Ok (y1 ++ s ++ y2) (2 * K + 100) := (ok_app k4 k2).mono (by omega)
  have k6 : Ok (y1 ++ y3) (2 * K + 100) := (ok_app k1 k3).mono (by omega)
  have k7 : Ok (y1 ++ s ++ y3) (2 * K + 100) := (ok_app k4 k3).mono (by omega)
  generalize y1 ++ s ++ y2 = z0 at *
  generalize y1 ++ y3 = z1 at *
  generalize y1 ++ s ++ y3 = z2 at *
  have r13 := (r1.trans r2).trans r3
  by_cases hw : way < 3
  · have : way = 0 ∨ way = 1 ∨ way = 2 := by omega
    rcases this with rfl | rfl | rfl
    · refine ⟨z0, m3, ?_, k5, p3.mono (by omega), r13⟩
      simp [F__law_bent_k84, runF, ps__law_bent_k84, N__law_bent_k84, s__law_bent_k84, exs, ex, ev, evs, asgn, asgns, toPart, xl6, e1, e2, e3, hsi, c1, c2, c3, a1, a2, a3, a4, at0, at1, at2]
    · refine ⟨z1, m3, ?_, k6, p3.mono (by omega), r13⟩
      simp [F__law_bent_k84, runF, ps__law_bent_k84, N__law_bent_k84, s__law_bent_k84, exs, ex, ev, evs, asgn, asgns, toPart, xl6, e1, e2, e3, hsi, c1, c2, c3, a1, a2, a3, a4, at0, at1, at2]
    · refine ⟨z2, m3, ?_, k7, p3.mono (by omega), r13⟩
      simp [F__law_bent_k84, runF, ps__law_bent_k84, N__law_bent_k84, s__law_bent_k84, exs, ex, ev, evs, asgn, asgns, toPart, xl6, e1, e2, e3, hsi, c1, c2, c3, a1, a2, a3, a4, at0, at1, at2]
  · have f1 : ∀ m, evBm .split (.str x) [.str " "] m = .ok (wD (Txt.split x " ")) m := fun m => bm_split (by omega)
    have wso := split_so hx.so
    have wsu := split_sum x
    have wne := split_ne x
    generalize Txt.split x " " = ws at *
    have wl := sum_len ws
    have wpos : 0 < ws.length := List.length_pos_iff.mpr wne
    obtain ⟨t4, m4, e4, t40, t41, p4, r4, l4⟩ := p_take (k := (ws.length : Int)) p3 (by omega) (by omega) (log_small (by omega) (by
      have : (500001 : Int) < 2 ^ 1000 := by decide +kernel
      omega))
    obtain ⟨sp, rfl⟩ := Int.eq_ofNat_of_zero_le t40
    have hsp : sp < ws.length := by omega
    have pwx : ∀ m, evBf .str [.int 1000000000000000000000000000000] m = .ok (.str (sn 1000000000000000000000000000000)) m := fun m => sn_str (by decide) (by decide)
    obtain ⟨d5, m5, e5, h5, p5, r5, l5⟩ := p_one (ds := [.str "0", .str "1", .str "2", .str "12", .str "00", .str "moved", .str "misses", .str "each", .str "lower", .str (sn 1000000000000000000000000000000), .str "hears"]) p4 (by omega) (by simp) (by simp)
    obtain ⟨o, rfl, ho⟩ : ∃ o, d5 = .str o ∧ Ok o 31 := by
      obtain ⟨q1, q2, q3, q4, q5, q6, q7, q8, q9, q10⟩ := ok_lit
      have q11 := ok_sn (i := 1000000000000000000000000000000) (by decide) (by decide)
      simp at h5
      rcases h5 with rfl | rfl | rfl | rfl | rfl | rfl | rfl | rfl | rfl | rfl | rfl <;> exact ⟨_, rfl, by assumption⟩
    have b1 : ∀ m, evSlc (wD ws) none (some (sp : Int)) m = .ok (wD (ws.take sp)) m := fun m => w_to
    have b2 : ∀ m, evSlc (wD ws) (some ((sp : Int) + 1)) none m = .ok (wD (ws.drop (sp + 1))) m := fun m => w_from1
    have b3 : ∀ m, evSlc (wD (ws.drop (sp + 1))) none (some 1) m = .ok (wD ((ws.drop (sp + 1)).take 1)) m := fun m => w_to (s := 1)
    have b4 : ∀ m, evSlc (wD ws) (some (sp : Int)) (some ((sp : Int) + 1)) m = .ok (wD ((ws.drop sp).take 1)) m := fun m => w_mid (by omega)
    have b5 : ∀ m, evSlc (wD (ws.drop (sp + 1))) (some 1) none m = .ok (wD ((ws.drop (sp + 1)).drop 1)) m := fun m => w_from (s := 1)
    have b6 : ∀ m, evBf .len [wD ws] m = .ok (.int ws.length) m := fun m => w_len
    have su1 := @wsum_take ws sp
    have su2 := @wsum_take (ws.drop sp) 1
    have su3 := @wsum_take (ws.drop (sp + 1)) 1
    rw [List.drop_drop] at su2
    have hA : ∀ w ∈ ws.take sp, PyData.strOk w = true := fun w h => wso w (List.mem_of_mem_take h)
    have hR : ∀ w ∈ ws.drop (sp + 1), PyData.strOk w = true := fun w h => wso w (List.mem_of_mem_drop h)
    have hO : ∀ w ∈ (ws.drop sp).take 1, PyData.strOk w = true := fun w h => wso w (List.mem_of_mem_drop (List.mem_of_mem_take h))
    have hR1 : ∀ w ∈ (ws.drop (sp + 1)).take 1, PyData.strOk w = true := fun w h => hR w (List.mem_of_mem_take h)
    have hR2 : ∀ w ∈ (ws.drop (sp + 1)).drop 1, PyData.strOk w = true := fun w h => hR w (List.mem_of_mem_drop h)
    have hol : ∀ w ∈ [o], PyData.strOk w = true := fun w h => by rw [List.mem_singleton.mp h]; exact ho.so
    have so1 : wsum [o] ≤ 32 := by have := ho.len; simp [wsum]; omega
    have ol1 : ((ws.drop sp).take 1).length ≤ 1000 := by simp; omega
    generalize ws.take sp = A at *
    generalize (ws.drop (sp + 1)).take 1 = R1 at *
    generalize (ws.drop (sp + 1)).drop 1 = R2 at *
    generalize ws.drop (sp + 1) = R at *
    generalize (ws.drop sp).take 1 = O at *
    have lA := sum_len A
    have lR := sum_len R
    have lR1 := sum_len R1
    have lR2 := sum_len R2
    have lO := sum_len O
    have ap : ∀ {a b : List Str}, (∀ w ∈ a, PyData.strOk w = true) → (∀ w ∈ b, PyData.strOk w = true) → ∀ w ∈ a ++ b, PyData.strOk w = true := fun h1 h2 w hw => (List.mem_append.mp hw).elim (h1 w) (h2 w)
    have g1 : ∀ m, evBin .Add (wD A) (.lst [.str o]) m = .ok (wD (A ++ [o])) m := fun m => w_add (b := [o]) (by simp; omega)
    have g2 : ∀ m, evBin .Add (wD (A ++ [o])) (wD R) m = .ok (wD (A ++ [o] ++ R)) m := fun m => w_add (by simp; omega)
    have g3 : ∀ m, evBin .Add (wD A) (wD R) m = .ok (wD (A ++ R)) m := fun m => w_add (by omega)
    have g4 : ∀ m, evBin .Add (wD A) (wD R1) m = .ok (wD (A ++ R1)) m := fun m => w_add (by omega)
    have g5 : ∀ m, evBin .Add (wD (A ++ R1)) (wD O) m = .ok (wD (A ++ R1 ++ O)) m := fun m => w_add (by simp; omega)
    have g6 : ∀ m, evBin .Add (wD (A ++ R1 ++ O)) (wD R2) m = .ok (wD (A ++ R1 ++ O ++ R2)) m := fun m => w_add (by simp; omega)
    have g7 : ∀ m, evBin .Mult (wD O) (.int 2) m = .ok (wD (O ++ O)) m := fun m => w_two ol1
    have g8 : ∀ m, evBin .Add (wD A) (wD (O ++ O)) m = .ok (wD (A ++ (O ++ O))) m := fun m => w_add (by simp; omega)
    have g9 : ∀ m, evBin .Add (wD (A ++ (O ++ O))) (wD R) m = .ok (wD (A ++ (O ++ O) ++ R)) m := fun m => w_add (by simp; omega)
    have g10 : ∀ m, evBin .Add (wD ws) (.lst [.str o]) m = .ok (wD (ws ++ [o])) m := fun m => w_add (b := [o]) (by simp; omega)
    have v0 : wsum (A ++ [o] ++ R) ≤ 2 * K + 100 := by rw [wsum_app, wsum_app]; omega
    have v1 : wsum (A ++ R) ≤ 2 * K + 100 := by rw [wsum_app]; omega
    have v2 : wsum (A ++ R1 ++ O ++ R2) ≤ 2 * K + 100 := by rw [wsum_app, wsum_app, wsum_app]; omega
    have v3 : wsum (A ++ (O ++ O) ++ R) ≤ 2 * K + 100 := by rw [wsum_app, wsum_app, wsum_app]; omega
    have v4 : wsum (ws ++ [o]) ≤ 2 * K + 100 := by rw [wsum_app]; omega
    have u0 := join_okk v0 (ap (ap hA hol) hR)
    have u1 := join_okk v1 (ap hA hR)
    have u2 := join_okk v2 (ap (ap (ap hA hR1) hO) hR2)
    have u3 := join_okk v3 (ap (ap hA (ap hO hO)) hR)
    have u4 := join_okk v4 (ap wso hol)
    have j0 : ∀ m, evBm .join (.str " ") [wD (A ++ [o] ++ R)] m = .ok (.str (Txt.join " " (A ++ [o] ++ R))) m := fun m => w_join (by omega)
    have j1 : ∀ m, evBm .join (.str " ") [wD (A ++ R)] m = .ok (.str (Txt.join " " (A ++ R))) m := fun m => w_join (by omega)
    have j2 : ∀ m, evBm .join (.str " ") [wD (A ++ R1 ++ O ++ R2)] m = .ok (.str (Txt.join " " (A ++ R1 ++ O ++ R2))) m := fun m => w_join (by omega)
    have j3 : ∀ m, evBm .join (.str " ") [wD (A ++ (O ++ O) ++ R)] m = .ok (.str (Txt.join " " (A ++ (O ++ O) ++ R))) m := fun m => w_join (by omega)
    have j4 : ∀ m, evBm .join (.str " ") [wD (ws ++ [o])] m = .ok (.str (Txt.join " " (ws ++ [o]))) m := fun m => w_join (by omega)
    generalize Txt.join " " (A ++ [o] ++ R) = Z0 at *
    generalize Txt.join " " (A ++ R) = Z1 at *
    generalize Txt.join " " (A ++ R1 ++ O ++ R2) = Z2 at *
    generalize Txt.join " " (A ++ (O ++ O) ++ R) = Z3 at *
    generalize Txt.join " " (ws ++ [o]) = Z4 at *
    generalize wD (A ++ [o] ++ R) = Y0 at *
    generalize wD (A ++ R) = Y1 at *
    generalize wD (A ++ R1 ++ O ++ R2) = Y2 at *
    generalize wD (A ++ (O ++ O) ++ R) = Y3 at *
    generalize wD (ws ++ [o]) = Y4 at *
    generalize wD (A ++ [o]) = X1 at *
    generalize wD (A ++ R1 ++ O) = X3 at *
    generalize wD (A ++ R1) = X2 at *
    generalize wD (A ++ (O ++ O)) = X4 at *
    generalize wD (O ++ O) = X5 at *
    generalize wD ws = W at *
    generalize wD A = DA at *
    generalize wD R1 = DR1 at *
    generalize wD R2 = DR2 at *
    generalize wD R = DR at *
    generalize wD O = DO at *
    have ty : bmTy .append (.ref m5.length) (m5 ++ [.lst [Y0, Y1]]) = true := ty_lst (ds := [Y0, Y1]) rfl (by simp)
    have apn : evBm .append (.ref m5.length) [Y2] (m5 ++ [.lst [Y0, Y1]]) = .ok .non (m5 ++ [.lst [Y0, Y1, Y2]]) := by
      rw [e_append (ds := [Y0, Y1]) (by simp) (by simp)]; simp
    have adl : evBin .Add (.ref m5.length) (.lst [Y3, Y4]) (m5 ++ [.lst [Y0, Y1, Y2]]) = .ok (.lst [Y0, Y1, Y2, Y3, Y4]) (m5 ++ [.lst [Y0, Y1, Y2]]) := by
      show (match (match (m5 ++ [Cell.lst [Y0, Y1, Y2]])[m5.length]? with | some (Cell.lst ds) => some ds | _ => none), some [Y3, Y4] with
        | some a, some b => if a.length + b.length ≤ 16777216 then Res.ok (D.lst (a ++ b)) _ else .stuck
        | _, _ => .stuck) = _
      simp
    have ty2 : ∀ m, bmTy .join (.str " ") m = true := fun m => rfl
    have ty3 : ∀ m, bmTy .split (.str x) m = true := fun m => rfl
    have rr := (r13.trans r4).trans r5
    have i3 : ∀ (a b c d : D) (l : List D), atI (a :: b :: c :: d :: l) 3 = some d := fun a b c d l => atN (i := 3) rfl rfl
    have i4' : ∀ (a b c d e : D) (l : List D), atI (a :: b :: c :: d :: e :: l) 4 = some e := fun a b c d e l => atN (i := 4) rfl rfl
    have : way = 3 ∨ way = 4 ∨ way = 5 ∨ way = 6 ∨ way = 7 := by omega
    rcases this with rfl | rfl | rfl | rfl | rfl
    · refine ⟨Z0, m5 ++ [.lst [Y0, Y1, Y2]], ?_, u0, (p5.mono (by omega)).app, rr.app⟩
      simp [F__law_bent_k84, runF, ps__law_bent_k84, N__law_bent_k84, s__law_bent_k84, exs, ex, ev, evs, asgn, asgns, toPart, -str_int, xl6, e1, e2, e3, hsi, f1, b6, e4, pw30, pwx, e5, b1, b2, b3, b4, b5, g1, g2, g3, g4, g5, g6, g7, g8, g9, g10, ty, apn, adl, ty2, ty3, at0, at1, at2, i3, i4', j0]
    · refine ⟨Z1, m5 ++ [.lst [Y0, Y1, Y2]], ?_, u1, (p5.mono (by omega)).app, rr.app⟩
      simp [F__law_bent_k84, runF, ps__law_bent_k84, N__law_bent_k84, s__law_bent_k84, exs, ex, ev, evs, asgn, asgns, toPart, -str_int, xl6, e1, e2, e3, hsi, f1, b6, e4, pw30, pwx, e5, b1, b2, b3, b4, b5, g1, g2, g3, g4, g5, g6, g7, g8, g9, g10, ty, apn, adl, ty2, ty3, at0, at1, at2, i3, i4', j1]
    · refine ⟨Z2, m5 ++ [.lst [Y0, Y1, Y2]], ?_, u2, (p5.mono (by omega)).app, rr.app⟩
      simp [F__law_bent_k84, runF, ps__law_bent_k84, N__law_bent_k84, s__law_bent_k84, exs, ex, ev, evs, asgn, asgns, toPart, -str_int, xl6, e1, e2, e3, hsi, f1, b6, e4, pw30, pwx, e5, b1, b2, b3, b4, b5, g1, g2, g3, g4, g5, g6, g7, g8, g9, g10, ty, apn, adl, ty2, ty3, at0, at1, at2, i3, i4', j2]
    · refine ⟨Z3, m5 ++ [.lst [Y0, Y1, Y2]], ?_, u3, (p5.mono (by omega)).app, rr.app⟩
      simp [F__law_bent_k84, runF, ps__law_bent_k84, N__law_bent_k84, s__law_bent_k84, exs, ex, ev, evs, asgn, asgns, toPart, -str_int, xl6, e1, e2, e3, hsi, f1, b6, e4, pw30, pwx, e5, b1, b2, b3, b4, b5, g1, g2, g3, g4, g5, g6, g7, g8, g9, g10, ty, apn, adl, ty2, ty3, at0, at1, at2, i3, i4', j3]
    · refine ⟨Z4, m5 ++ [.lst [Y0, Y1, Y2]], ?_, u4, (p5.mono (by omega)).app, rr.app⟩
      simp [F__law_bent_k84, runF, ps__law_bent_k84, N__law_bent_k84, s__law_bent_k84, exs, ex, ev, evs, asgn, asgns, toPart, -str_int, xl6, e1, e2, e3, hsi, f1, b6, e4, pw30, pwx, e5, b1, b2, b3, b4, b5, g1, g2, g3, g4, g5, g6, g7, g8, g9, g10, ty, apn, adl, ty2, ty3, at0, at1, at2, i3, i4', j4]
end PQ
set_option Elab.async false
set_option linter.all false
set_option maxRecDepth 100000
set_option maxHeartbeats 4000000
namespace PQ
open PySem PySem.Spec L2 ME PG
def lw0 : Sm := .asg (.tup (.cons (.name 2) (.cons (.name 3) (.cons (.name 4) .nil)))) (.tup (.cons (.str "upper 1 2 3 lower 1 1 6 hears ") (.cons (.bf .str (.cons (.bin .Pow (.int 10) (.int 30)) .nil)) (.cons (.bf .str (.cons (.bin .Add (.bin .Pow (.int 10) (.int 30)) (.int 1)) .nil)) .nil))))
def lw1 : Sm := .asg (.name 1) (.lc (.bin .Add (.var 2) (.var 5)) (.name 5) (.lst (.lst (.cons (.str "misses") (.cons (.str "moved") (.cons (.str "each 0") (.cons (.str "each 7") (.cons (.str "each") (.cons (.str "each  7") (.cons (.str "each 07") (.cons (.str "each -1") .nil)))))))))) .nil [("_law_end", 5)])
def lw2 : Sm := .asg (.name 1) (.bin .Add (.var 1) (.lc (.bin .Add (.var 2) (.var 5)) (.name 5) (.lst (.lst (.cons (.bin .Add (.str "each ") (.var 3)) (.cons (.bin .Add (.str "each ") (.var 4)) (.cons (.str "moved 1") (.cons (.str "misses ") (.cons (.str "") (.cons (.str "all") .nil)))))))) .nil [("_law_end", 5)]))
def lw3 : Sm := .asg (.name 1) (.bin .Add (.var 1) (.lc (.bin .Add (.bin .Add (.str "upper ") (.var 6)) (.str " 1 1 lower 1 1 1 hears moved")) (.name 6) (.lst (.lst (.cons (.var 3) (.cons (.var 4) (.cons (.str "0") (.cons (.str "01") .nil)))))) .nil [("_law_each", 6)]))
def lw4 : Sm := .asg (.name 1) (.bin .Add (.var 1) (.lst (.cons (.str "upper 1 1 2 lower 1 1 3 hears moved") (.cons (.bin .Add (.bin .Add (.str " ") (.var 2)) (.str "moved")) (.cons (.str "") (.cons (.str "upper") (.cons (.str "upper 1 1 1 lower 1 1 1") .nil)))))))
def lw5 : Sm := .asg (.name 1) (.bin .Add (.var 1) (.lst (.cons (.str "upper 1 1 1 lower 1 1 1 hears moved\n") (.cons (.str "Upper 1 1 1 lower 1 1 1 hears moved") .nil))))
def lw6 : Sm := .ite (.nt (.bf .all (.cons (.lc (.call "_law_line_right" (pureF F__law_line_right_k84) (.cons (.var 8) .nil)) (.name 8) (.lst (.var 1)) .nil [("_law_line", 8)]) .nil))) [.ret (.bl false)] []
def lw7 : Sm := .ret (.bf .all (.cons (.lc (.call "_law_right" F__law_right_k84 (.cons (.call "_law_purse" F__law_purse (.cons (.var 0) (.cons (.var 7) .nil))) .nil)) (.name 7) (.rng1 (.bf .max2 (.cons (.int 2) (.cons (.bf .min2 (.cons (.bf .len (.cons (.var 0) .nil)) (.cons (.int 5) .nil))) .nil)))) .nil [("_law_k", 7)]) .nil))
theorem lw_eq : s_law_k84 = [lw0, lw1, lw2, lw3, lw4, lw5, lw6, lw7] := rfl
def bodyR : List Sm := [.ite (.nt (.call "_law_line_right" (pureF F__law_line_right_k84) (.cons (.var 1) .nil))) [.ret (.bl false)] [], .asg (.name 1) (.call "_law_bent" F__law_bent_k84 (.cons (.var 0) (.cons (.var 1) .nil)))]
theorem right_eq : s__law_right_k84 = [.asg (.name 1) (.call "_law_text" (pureF F__law_text_k84) (.cons (.call "_law_duo" F__law_duo_k74 (.cons (.var 0) (.cons (.call "_law_one" F__law_one (.cons (.var 0) (.cons (.lst (.cons (.int 1) (.cons (.int 1) (.cons (.bin .Pow (.int 10) (.int 20)) .nil)))) .nil))) .nil))) .nil)), .loop (.name 2) (.rng1 (.bin .Add (.int 1) (.call "_law_take" F__law_take (.cons (.var 0) (.cons (.int 9) .nil))))) bodyR, .ret (.call "_law_line_right" (pureF F__law_line_right_k84) (.cons (.var 1) .nil))] := rfl

theorem line_ok {us uw un ls lw ln : Int} {h : D} (hm : Mi us uw un ls lw ln h) : Ok (line us uw un ls lw ln h) 500 := by
  refine ⟨?_, line_len hm⟩
  obtain ⟨q1, q2, q3, q4, q5, q6⟩ := so3
  obtain ⟨⟨a0, a1⟩, ⟨b0, b1⟩, ⟨c0, c1⟩, ⟨d0, d1⟩, ⟨e0, e1⟩, ⟨f0, f1⟩, _, hh⟩ := hm
  have z1 := so_sn (i := us) (by omega)
  have z2 := so_sn (i := uw) (by omega)
  have z3 := so_sn (i := un) (by omega)
  have z4 := so_sn (i := ls) (by omega)
  have z5 := so_sn (i := lw) (by omega)
  have z6 := so_sn (i := ln) (by omega)
  refine (join_okk (K := wsum (wds us uw un ls lw ln h)) (Nat.le_refl _) ?_).so
  rcases hh with rfl | rfl | ⟨e, rfl, g0, g1⟩
  · simp only [wds, wd, List.forall_mem_cons]
    exact ⟨q1, z1, z2, z3, q2, z4, z5, z6, q3, q4, by simp⟩
  · simp only [wds, wd, List.forall_mem_cons]
    exact ⟨q1, z1, z2, z3, q2, z4, z5, z6, q3, q5, by simp⟩
  · simp only [wds, wd, List.forall_mem_cons]
    exact ⟨q1, z1, z2, z3, q2, z4, z5, z6, q3, q6, so_sn g0, by simp⟩
theorem loopR {n : Nat} : ∀ (l : List D) {m : Sto} {L K : Nat} {x : Str} {y2 : Option D}, Pu m n L → L + 5 * l.length < 700000000 → Ok x K → (K + 100) * 2 ^ l.length ≤ 400000 →
    ∃ x' z2 m', forLoop (fun _ => true) (fun v d m => asgn (.name 2) v d m) (fun d m => exs 100 bodyR d m) l [some (.ref n), some (.str x), y2] m = .ok .nx [some (.ref n), some (.str x'), z2] m' ∧ Ok x' 1000000
  | [], m, L, K, x, y2, hp, hL, hx, hK => ⟨x, y2, m, by simp [forLoop], hx.mono (by simp at hK; omega)⟩
  | v :: l, m, L, K, x, y2, hp, hL, hx, hK => by
    rw [List.length_cons] at hL hK
    have hK2 : (K + 100) * 2 * 2 ^ l.length ≤ 400000 := by rw [Nat.pow_succ] at hK; rw [Nat.mul_assoc, Nat.mul_comm 2]; exact hK
    have hK1 : (K + 100) * 2 * 1 ≤ 400000 := Nat.le_trans (Nat.mul_le_mul_left _ (Nat.one_le_two_pow)) hK2
    have e1 : pureF F__law_line_right_k84 [.str x] m = .ok (.bl true) m := e_line (hx.mono (by omega))
    obtain ⟨y, m1, e2, hy, hp1, hr⟩ := p_bent hp (by omega) hx (by omega)
    obtain ⟨x', z2, m', e3, hx'⟩ := loopR l (y2 := some v) hp1 (by omega) hy (by
      rw [show 2 * K + 100 + 100 = (K + 100) * 2 by omega]; exact hK2)
    refine ⟨x', z2, m', ?_, hx'⟩
    have st : exs 100 bodyR [some (.ref n), some (.str x), some v] m = .ok .nx [some (.ref n), some (.str y), some v] m1 := by
      simp [bodyR, exs, ex, ev, evs, asgn, e1, e2]
    simp only [asgn] at e3
    simp [forLoop, asgn, st, e3]
end PQ
set_option Elab.async false
set_option linter.all false
set_option maxRecDepth 100000
set_option maxHeartbeats 4000000
namespace PQ
open PySem PySem.Spec L2 ME PG
theorem p_right {m : Sto} {n L : Nat} (hp : Pu m n L) (hL : L < 1000) : ∃ m', F__law_right_k84 [.ref n] m = .ok (.bl true) m' := by
  obtain ⟨d0, m0, e0, h0, p0, r0, l0⟩ := p_one (ds := [.int 1, .int 1, .int 100000000000000000000]) hp (by omega) (by simp) (by simp)
  obtain ⟨size, rfl, hz⟩ : ∃ i : Int, d0 = .int i ∧ (i = 1 ∨ i = 100000000000000000000) := by
    simp at h0
    rcases h0 with rfl | rfl
    · exact ⟨_, rfl, .inl rfl⟩
    · exact ⟨_, rfl, .inr rfl⟩
  obtain ⟨us, uw, un, ls, lw, ln, h, m1, e1, hm, p1, r1, l1⟩ := p_duo p0 (by omega) hz
  have t1 : ∀ m, pureF F__law_text_k84 [mine us uw un ls lw ln h] m = .ok (.str (line us uw un ls lw ln h)) m := fun m => pure_ok (mine_closed hm.hh) (p_text hm) rfl
  have lo := line_ok hm
  generalize line us uw un ls lw ln h = x at *
  generalize mine us uw un ls lw ln h = mi at *
  obtain ⟨t, m2, e2, t0, t9, p2, r2, l2⟩ := p_take (k := 9) p1 (by omega) (by decide) (by decide)
  obtain ⟨tn, rfl⟩ := Int.eq_ofNat_of_zero_le t0
  have hlen : (rangeD 0 (1 + (tn : Int)).toNat).length ≤ 9 := by simp [rangeD]; omega
  have kb : (500 + 100) * 2 ^ (rangeD 0 (1 + (tn : Int)).toNat).length ≤ 400000 := by
    have h1 := Nat.pow_le_pow_right (n := 2) (by omega) hlen
    generalize 2 ^ (rangeD 0 (1 + (tn : Int)).toNat).length = z at *
    have h2 : (2 : Nat) ^ 9 = 512 := rfl
    omega
  obtain ⟨x', z2, m', e3, hx'⟩ := loopR (rangeD 0 (1 + (tn : Int)).toNat) (y2 := none) p2 (by omega) lo kb
  have e4 : pureF F__law_line_right_k84 [.str x'] m' = .ok (.bl true) m' := e_line hx'
  have it : evIt (.rng1 (.bin .Add (.int 1) (.call "_law_take" F__law_take (.cons (.var 0) (.cons (.int 9) .nil))))) [some (.ref n), some (.str x), none] m1 = .ok ⟨rangeD 0 (1 + (tn : Int)).toNat, none⟩ m2 := by
    have h1 : -(2 : Int) ^ 62 ≤ 1 + (tn : Int) ∧ 1 + (tn : Int) < 2 ^ 62 := by omega
    have e6 : ev (.bin .Add (.int 1) (.call "_law_take" F__law_take (.cons (.var 0) (.cons (.int 9) .nil)))) [some (.ref n), some (.str x), none] m1 = .ok (.int (1 + (tn : Int))) m2 := by
      simp [ev, evs, e2]
    simp only [evIt, e6, Res.bind]
    rw [if_pos h1]
  have s2 : ex 100 (.loop (.name 2) (.rng1 (.bin .Add (.int 1) (.call "_law_take" F__law_take (.cons (.var 0) (.cons (.int 9) .nil))))) bodyR) [some (.ref n), some (.str x), none] m1 = .ok .nx [some (.ref n), some (.str x'), z2] m' := by
    rw [ex_loop, it]
    exact e3
  refine ⟨m', ?_⟩
  unfold F__law_right_k84
  rw [right_eq]
  simp [exs, ev, evs, pw20, e0, e1, t1, s2, e4]
end PQ
set_option Elab.async false
set_option linter.all false
set_option maxRecDepth 100000
set_option maxHeartbeats 4000000
namespace PQ
open PySem PySem.Spec L2 ME PG
abbrev T31 : Int := 1000000000000000000000000000001
theorem str31 {m : Sto} : evBf .str [.int 1000000000000000000000000000001] m = .ok (.str (sn T31)) m := by
  show (if (1000000000000000000000000000001 : Int).natAbs.log2 < 1920 then Res.ok (D.str (toString (1000000000000000000000000000001 : Int))) m else .stuck) = _
  rw [if_pos (by decide +kernel)]; rfl
theorem str30 {m : Sto} : evBf .str [.int 1000000000000000000000000000000] m = .ok (.str (sn T30)) m := sn_str (by decide) (by decide)
theorem ok30 : Ok (sn T30) 40 := (ok_sn (by decide) (by decide)).mono (by decide)
theorem ok31 : Ok (sn T31) 40 := ⟨so_sn (by decide), by
  rw [TL.len_tl, sn_tl (by decide)]
  exact Nat.le_trans (TL.numL_len (k := 32) (by decide) (by decide +kernel)) (by decide)⟩
def HD : Str := "upper 1 2 3 lower 1 1 6 hears "
def TLs : Str := " 1 1 lower 1 1 1 hears moved"
def okb (x : Str) (K : Nat) : Bool := PyData.strOk x && decide (x.length ≤ K)
theorem okb_ok {x : Str} {K : Nat} (h : okb x K = true) : Ok x K := by
  unfold okb at h; simp at h; exact ⟨h.1, h.2⟩
theorem hd_ok : Ok HD 40 := okb_ok (by decide +kernel)
theorem tl_ok : Ok TLs 40 := okb_ok (by decide +kernel)
def M1 : List Str := ["misses", "moved", "each 0", "each 7", "each", "each  7", "each 07", "each -1"]
def M2 : List Str := [Str.ofString "each " ++ sn T30, Str.ofString "each " ++ sn T31, "moved 1", "misses ", "", "all"]
def M3 : List Str := [sn T30, sn T31, "0", "01"]
def M4 : List Str := ["upper 1 1 2 lower 1 1 3 hears moved", Str.ofString " " ++ HD ++ Str.ofString "moved", "", "upper", "upper 1 1 1 lower 1 1 1"]
/-- the texts that stand in a tree -/
def txts : Exs → List Str
  | .cons (.str s) es => s :: txts es
  | .cons _ es => txts es
  | .nil => []
def M5 : List Str := match lw5 with
  | .asg _ (.bin _ _ (.lst es)) => txts es
  | _ => []
theorem m1_ok : ∀ w ∈ M1, Ok w 100 := by
  intro w hw
  have : ∀ w ∈ M1, okb w 100 = true := by decide +kernel
  exact okb_ok (this w hw)
theorem ea_ok : Ok (Str.ofString "each ") 10 := okb_ok (by decide +kernel)
theorem m2_ok : ∀ w ∈ M2, Ok w 100 := by
  unfold M2
  simp only [List.forall_mem_cons]
  exact ⟨(ok_app ea_ok ok30).mono (by decide), (ok_app ea_ok ok31).mono (by decide), okb_ok (by decide +kernel), okb_ok (by decide +kernel), okb_ok (by decide +kernel), okb_ok (by decide +kernel), by simp⟩
theorem m3_ok : ∀ w ∈ M3, Ok w 100 := by
  unfold M3
  simp only [List.forall_mem_cons]
  exact ⟨ok30.mono (by decide), ok31.mono (by decide), okb_ok (by decide +kernel), okb_ok (by decide +kernel), by simp⟩
theorem m4_ok : ∀ w ∈ M4, Ok w 1000 := by
  unfold M4
  simp only [List.forall_mem_cons]
  exact ⟨okb_ok (by decide +kernel), okb_ok (by decide +kernel), okb_ok (by decide +kernel), okb_ok (by decide +kernel), okb_ok (by decide +kernel), by simp⟩
theorem m5_ok : ∀ w ∈ M5, Ok w 1000 := by
  intro w hw
  have : ∀ w ∈ M5, okb w 1000 = true := by decide +kernel
  exact okb_ok (this w hw)
theorem lcS {e : Ex} {k : Nat} {nm : Str} {es : Ex} {δ : ME.Env} {l : List Str} {g : Str → Str} {m : Sto} (hes : evIt (.lst es) δ m = .ok ⟨l.map D.str, none⟩ m)
    (he : ∀ w ∈ l, ev e ((wipeE δ [k]).set k (some (.str w))) m = .ok (.str (g w)) m) (hl : l.length ≤ 1000) : ev (.lc e (.name k) (.lst es) .nil [(nm, k)]) δ m = .ok (wD (l.map g)) m := by
  rw [ev_lc, hes]
  have := lc_map2 (chk := Itm.chk ⟨l.map D.str, none⟩) (ft := fun v m => asgn (.name k) v (wipeE δ [k]) m) (fb := fun e m => evIfs .nil e m) (fe := fun d m => ev e d m) D.str (fun w => D.str (g w)) (m := m) rfl l []
    (fun w hw => ⟨_, rfl, rfl, he w hw⟩) (by simp; omega)
  refine Eq.trans this ?_
  unfold wD
  rw [List.nil_append, List.map_map]; rfl
section
variable {sc : D} {m : Sto} {a b c d e : Option D} {l : List Str}
theorem st0 : ex 100 lw0 [some sc, a, none, none, none, b, c, d, e] m = .ok .nx [some sc, a, some (.str HD), some (.str (sn T30)), some (.str (sn T31)), b, c, d, e] m := by
  have h1 : ∀ m, evBf .str [.int 1000000000000000000000000000000] m = .ok (.str (sn T30)) m := fun m => str30
  have h2 : ∀ m, evBf .str [.int 1000000000000000000000000000001] m = .ok (.str (sn T31)) m := fun m => str31
  simp [-str_int, lw0, ex, ev, evs, asgn, asgns, seqOf, pw30, h1, h2, HD]
theorem adH {w : Str} (h : Ok w 1000) {m : Sto} : evBin .Add (.str HD) (.str w) m = .ok (.str (HD ++ w)) m := add_str (by have := hd_ok.len; have := h.len; omega)
theorem st1 : ex 100 lw1 [some sc, a, some (.str HD), some (.str (sn T30)), some (.str (sn T31)), b, c, d, e] m = .ok .nx [some sc, some (wD (M1.map (HD ++ ·))), some (.str HD), some (.str (sn T30)), some (.str (sn T31)), b, c, d, e] m := by
  have := lcS (e := .bin .Add (.var 2) (.var 5)) (k := 5) (nm := "_law_end") (es := .lst (.cons (.str "misses") (.cons (.str "moved") (.cons (.str "each 0") (.cons (.str "each 7") (.cons (.str "each") (.cons (.str "each  7") (.cons (.str "each 07") (.cons (.str "each -1") .nil))))))))) (δ := [some sc, a, some (.str HD), some (.str (sn T30)), some (.str (sn T31)), b, c, d, e]) (l := M1) (g := (HD ++ ·)) (m := m) rfl (fun w hw => by
    have h1 : ∀ m, evBin .Add (.str HD) (.str w) m = .ok (.str (HD ++ w)) m := fun m => adH ((m1_ok w hw).mono (by decide))
    rw [ev_bin]
    exact h1 m) (by decide)
  unfold lw1
  rw [ex_asg, this]
  rfl
theorem st2 (hl : l.length ≤ 1000) : ex 100 lw2 [some sc, some (wD l), some (.str HD), some (.str (sn T30)), some (.str (sn T31)), b, c, d, e] m = .ok .nx [some sc, some (wD (l ++ M2.map (HD ++ ·))), some (.str HD), some (.str (sn T30)), some (.str (sn T31)), b, c, d, e] m := by
  have a1 : ∀ m, evBin .Add (.str "each ") (.str (sn T30)) m = .ok (.str (Str.ofString "each " ++ sn T30)) m := fun m => add_str (by have := ea_ok.len; have := ok30.len; omega)
  have a2 : ∀ m, evBin .Add (.str "each ") (.str (sn T31)) m = .ok (.str (Str.ofString "each " ++ sn T31)) m := fun m => add_str (by have := ea_ok.len; have := ok31.len; omega)
  have hit : evIt (.lst (.lst (.cons (.bin .Add (.str "each ") (.var 3)) (.cons (.bin .Add (.str "each ") (.var 4)) (.cons (.str "moved 1") (.cons (.str "misses ") (.cons (.str "") (.cons (.str "all") .nil)))))))) [some sc, some (wD l), some (.str HD), some (.str (sn T30)), some (.str (sn T31)), b, c, d, e] m = .ok ⟨M2.map D.str, none⟩ m := by
    simp [evIt, ev, evs, itAny, itLst, lstOfR, lstOf, a1, a2, M2]
    try rfl
  have := lcS (e := .bin .Add (.var 2) (.var 5)) (k := 5) (nm := "_law_end") (δ := [some sc, some (wD l), some (.str HD), some (.str (sn T30)), some (.str (sn T31)), b, c, d, e]) (l := M2) (g := (HD ++ ·)) (m := m) hit (fun w hw => by
    have h1 : ∀ m, evBin .Add (.str HD) (.str w) m = .ok (.str (HD ++ w)) m := fun m => adH ((m2_ok w hw).mono (by decide))
    rw [ev_bin]
    exact h1 m) (by decide)
  have ad : ∀ m, evBin .Add (wD l) (wD (M2.map (HD ++ ·))) m = .ok (wD (l ++ M2.map (HD ++ ·))) m := fun m => w_add (by have : (M2.map (HD ++ ·)).length = 6 := rfl; omega)
  unfold lw2
  rw [ex_asg, ev_bin]
  show (((Res.ok (wD l) m).bind fun x m1 => (ev _ _ m1).bind fun y m2 => evBin .Add x y m2).then _ _) = _
  simp only [Res.bind]
  rw [this]
  simp only [Res.bind]
  rw [ad]
  rfl
theorem st3 (hl : l.length ≤ 1000) : ex 100 lw3 [some sc, some (wD l), some (.str HD), some (.str (sn T30)), some (.str (sn T31)), b, c, d, e] m = .ok .nx [some sc, some (wD (l ++ M3.map (fun w => Str.ofString "upper " ++ w ++ TLs))), some (.str HD), some (.str (sn T30)), some (.str (sn T31)), b, c, d, e] m := by
  have up_ok : Ok (Str.ofString "upper ") 10 := okb_ok (by decide +kernel)
  have := lcS (e := .bin .Add (.bin .Add (.str "upper ") (.var 6)) (.str " 1 1 lower 1 1 1 hears moved")) (k := 6) (nm := "_law_each") (es := .lst (.cons (.var 3) (.cons (.var 4) (.cons (.str "0") (.cons (.str "01") .nil))))) (δ := [some sc, some (wD l), some (.str HD), some (.str (sn T30)), some (.str (sn T31)), b, c, d, e]) (l := M3) (g := fun w => Str.ofString "upper " ++ w ++ TLs) (m := m) rfl (fun w hw => by
    have hw1 := m3_ok w hw
    have o2 := ok_app up_ok hw1
    have h1 : ∀ m, evBin .Add (.str "upper ") (.str w) m = .ok (.str (Str.ofString "upper " ++ w)) m := fun m => add_str (by have := up_ok.len; have := hw1.len; omega)
    have h2 : ∀ m, evBin .Add (.str (Str.ofString "upper " ++ w)) (.str " 1 1 lower 1 1 1 hears moved") m = .ok (.str (Str.ofString "upper " ++ w ++ TLs)) m := fun m => add_str (x := Str.ofString "upper " ++ w) (y := TLs) (by have := o2.len; have := tl_ok.len; omega)
    rw [ev_bin, ev_bin]
    show ((evBin .Add (.str "upper ") (.str w) m).bind fun x m1 => evBin .Add x (.str " 1 1 lower 1 1 1 hears moved") m1) = _
    rw [h1]
    exact h2 m) (by decide)
  have ad : ∀ m, evBin .Add (wD l) (wD (M3.map (fun w => Str.ofString "upper " ++ w ++ TLs))) m = .ok (wD (l ++ M3.map (fun w => Str.ofString "upper " ++ w ++ TLs))) m := fun m => w_add (by have : (M3.map (fun w => Str.ofString "upper " ++ w ++ TLs)).length = 4 := rfl; omega)
  unfold lw3
  rw [ex_asg, ev_bin]
  show (((Res.ok (wD l) m).bind fun x m1 => (ev _ _ m1).bind fun y m2 => evBin .Add x y m2).then _ _) = _
  simp only [Res.bind]
  rw [this]
  simp only [Res.bind]
  rw [ad]
  rfl
theorem st4 (hl : l.length ≤ 1000) : ex 100 lw4 [some sc, some (wD l), some (.str HD), some (.str (sn T30)), some (.str (sn T31)), b, c, d, e] m = .ok .nx [some sc, some (wD (l ++ M4)), some (.str HD), some (.str (sn T30)), some (.str (sn T31)), b, c, d, e] m := by
  have bl_ok : Ok (Str.ofString " ") 10 := okb_ok (by decide +kernel)
  have mv_ok : Ok (Str.ofString "moved") 10 := okb_ok (by decide +kernel)
  have o2 := ok_app bl_ok hd_ok
  have h1 : ∀ m, evBin .Add (.str " ") (.str HD) m = .ok (.str (Str.ofString " " ++ HD)) m := fun m => add_str (by have := bl_ok.len; have := hd_ok.len; omega)
  have h2 : ∀ m, evBin .Add (.str (Str.ofString " " ++ HD)) (.str "moved") m = .ok (.str (Str.ofString " " ++ HD ++ Str.ofString "moved")) m := fun m => add_str (by have := o2.len; have := mv_ok.len; omega)
  have ad : ∀ m, evBin .Add (wD l) (wD M4) m = .ok (wD (l ++ M4)) m := fun m => w_add (by have : M4.length = 5 := rfl; omega)
  have e1 : ev (.lst (.cons (.str "upper 1 1 2 lower 1 1 3 hears moved") (.cons (.bin .Add (.bin .Add (.str " ") (.var 2)) (.str "moved")) (.cons (.str "") (.cons (.str "upper") (.cons (.str "upper 1 1 1 lower 1 1 1") .nil)))))) [some sc, some (wD l), some (.str HD), some (.str (sn T30)), some (.str (sn T31)), b, c, d, e] m = .ok (wD M4) m := by
    simp [ev, evs, h1, h2, M4, wD]
    try rfl
  unfold lw4
  rw [ex_asg, ev_bin]
  show (((Res.ok (wD l) m).bind fun x m1 => (ev _ _ m1).bind fun y m2 => evBin .Add x y m2).then _ _) = _
  simp only [Res.bind]
  rw [e1]
  simp only [Res.bind]
  rw [ad]
  rfl
theorem st5 (hl : l.length ≤ 1000) : ex 100 lw5 [some sc, some (wD l), some (.str HD), some (.str (sn T30)), some (.str (sn T31)), b, c, d, e] m = .ok .nx [some sc, some (wD (l ++ M5)), some (.str HD), some (.str (sn T30)), some (.str (sn T31)), b, c, d, e] m := by
  have ad : ∀ m, evBin .Add (wD l) (wD M5) m = .ok (wD (l ++ M5)) m := fun m => w_add (by have : M5.length = 2 := rfl; omega)
  unfold lw5
  rw [ex_asg, ev_bin]
  show (((Res.ok (wD l) m).bind fun x m1 => (Res.ok (wD M5) m1).bind fun y m2 => evBin .Add x y m2).then _ _) = _
  simp only [Res.bind]
  rw [ad]
  rfl
end
theorem all_wD {l : List Str} (h : ∀ w ∈ l, Ok w 1000000) (hl : l.length ≤ 1000) {sc : D} {x2 x3 x4 : D} {b c d e : Option D} {m : Sto} :
    ex 100 lw6 [some sc, some (wD l), some x2, some x3, some x4, b, c, d, e] m = .ok .nx [some sc, some (wD l), some x2, some x3, some x4, b, c, d, e] m := by
  have e1 : ev (.lc (.call "_law_line_right" (pureF F__law_line_right_k84) (.cons (.var 8) .nil)) (.name 8) (.lst (.var 1)) .nil [("_law_line", 8)]) [some sc, some (wD l), some x2, some x3, some x4, b, c, d, e] m = .ok (.lst ((l.map fun _ => true).map D.bl)) m := by
    rw [ev_lc]
    show lcLoop _ _ _ _ (l.map D.str) [] m = _
    have := lc_map2 (chk := Itm.chk ⟨l.map D.str, none⟩) (ft := fun v m => asgn (.name 8) v (wipeE [some sc, some (wD l), some x2, some x3, some x4, b, c, d, e] [8]) m) (fb := fun e m => evIfs .nil e m) (fe := fun d m => ev (.call "_law_line_right" (pureF F__law_line_right_k84) (.cons (.var 8) .nil)) d m) D.str (fun w => D.bl true) (m := m) rfl l []
      (fun w hw => ⟨_, rfl, rfl, by
        show (pureF F__law_line_right_k84 [.str w] m) = _
        exact e_line (h w hw)⟩) (by simp; omega)
    rw [List.map_map]
    exact this
  have e2 := ev_all1 (ds := []) e1
  have e9 : ((l.map fun _ => true).all id) = true := by simp
  rw [e9] at e2
  unfold lw6
  rw [ex_ite, ev_nt, e2]
  rfl
end PQ
set_option Elab.async false
set_option linter.all false
set_option maxRecDepth 100000
set_option maxHeartbeats 4000000
namespace T84
open PySem PySem.Spec L2 ME PG PQ
theorem last_row {ns : List Int} {x1 x2 x3 x4 : D} {m : Sto} :
    ∃ m', ex 100 lw7 [some (.rol (ns.map D.int)), some x1, some x2, some x3, some x4, none, none, none, none] m = .ok (.ret (.bl true)) [some (.rol (ns.map D.int)), some x1, some x2, some x3, some x4, none, none, none, none] m' := by
  obtain ⟨w, hw, hwN⟩ : ∃ w : Nat, (if (if (5 : Int) < (ns.length : Nat) then (5 : Int) else (ns.length : Nat)) > 2 then (if (5 : Int) < (ns.length : Nat) then (5 : Int) else (ns.length : Nat)) else 2) = (w : Nat) ∧ w ≤ 5 := by
    by_cases a : (5 : Int) < (ns.length : Nat)
    · exact ⟨5, by simp [a], by omega⟩
    · by_cases b : ((ns.length : Nat) : Int) > 2
      · exact ⟨ns.length, by simp [a, b], by omega⟩
      · exact ⟨2, by simp [a, b], by omega⟩
  obtain ⟨m', e⟩ := lc_true (chk := fun _ => true) (ft := fun v m => asgn (.name 7) v (wipeE [some (.rol (ns.map D.int)), some x1, some x2, some x3, some x4, none, none, none, none] [7]) m) (fb := fun e m => evIfs .nil e m)
    (fe := fun e m => ev (.call "_law_right" F__law_right_k84 (.cons (.call "_law_purse" F__law_purse (.cons (.var 0) (.cons (.var 7) .nil))) .nil)) e m) (fun _ => rfl) (rangeD 0 w) [] m (fun d hd m => by
      obtain ⟨k, hk, rfl⟩ := List.mem_map.mp hd
      have hk' : k < 6 := Nat.lt_of_lt_of_le (List.mem_range.mp hk) (by omega)
      obtain ⟨a, b, e1, a0, a1, b0⟩ := p_purse (ns := ns) (m := m) hk'
      obtain ⟨m1, e2⟩ := p_right (m := m ++ [.lst [.int a, .int b, .int 0]]) (n := m.length) (L := 0) ⟨a, b, 0, by simp, a0, a1, b0, by decide, by decide⟩ (by decide)
      refine ⟨[some (.rol (ns.map D.int)), some x1, some x2, some x3, some x4, none, none, some (.int k), none], m1, by simp [asgn, wipeE], rfl, ?_⟩
      simp [ev, evs, e1, e2]) (by simp [rangeD]; omega)
  have e5 : evIt (.rng1 (.bf .max2 (.cons (.int 2) (.cons (.bf .min2 (.cons (.bf .len (.cons (.var 0) .nil)) (.cons (.int 5) .nil))) .nil)))) [some (.rol (ns.map D.int)), some x1, some x2, some x3, some x4, none, none, none, none] m = .ok ⟨rangeD 0 w, none⟩ m := by
    have h1 : -(2 : Int) ^ 62 ≤ (w : Int) ∧ (w : Int) < 2 ^ 62 := by omega
    have e0 : ev (.bf .max2 (.cons (.int 2) (.cons (.bf .min2 (.cons (.bf .len (.cons (.var 0) .nil)) (.cons (.int 5) .nil))) .nil))) [some (.rol (ns.map D.int)), some x1, some x2, some x3, some x4, none, none, none, none] m = .ok (.int w) m := by
      simpa [ev, evs, Res.bind] using hw
    simp only [evIt, e0, Res.bind]
    rw [if_pos h1]; rfl
  have e6 : ev (.lc (.call "_law_right" F__law_right_k84 (.cons (.call "_law_purse" F__law_purse (.cons (.var 0) (.cons (.var 7) .nil))) .nil)) (.name 7) (.rng1 (.bf .max2 (.cons (.int 2) (.cons (.bf .min2 (.cons (.bf .len (.cons (.var 0) .nil)) (.cons (.int 5) .nil))) .nil)))) .nil [("_law_k", 7)]) [some (.rol (ns.map D.int)), some x1, some x2, some x3, some x4, none, none, none, none] m = .ok (.lst (((rangeD 0 w).map fun _ => true).map D.bl)) m' := by
    rw [ev_lc, e5]
    refine Eq.trans e ?_
    rw [List.map_map]; rfl
  have e8 := ev_all1 (ds := []) e6
  have e9 : (((rangeD 0 w).map fun _ => true).all id) = true := by simp
  rw [e9] at e8
  refine ⟨m', ?_⟩
  unfold lw7
  rw [ex_ret, e8]
  rfl
def allL : List Str := M1.map (HD ++ ·) ++ M2.map (HD ++ ·) ++ M3.map (fun w => Str.ofString "upper " ++ w ++ TLs) ++ M4 ++ M5
theorem all_ok : ∀ w ∈ allL, Ok w 1000000 := by
  have up_ok : Ok (Str.ofString "upper ") 10 := okb_ok (by decide +kernel)
  intro w hw
  unfold allL at hw
  rcases List.mem_append.mp hw with hw | hw
  · rcases List.mem_append.mp hw with hw | hw
    · rcases List.mem_append.mp hw with hw | hw
      · rcases List.mem_append.mp hw with hw | hw
        · obtain ⟨v, hv, rfl⟩ := List.mem_map.mp hw
          exact (ok_app hd_ok (m1_ok v hv)).mono (by decide)
        · obtain ⟨v, hv, rfl⟩ := List.mem_map.mp hw
          exact (ok_app hd_ok (m2_ok v hv)).mono (by decide)
      · obtain ⟨v, hv, rfl⟩ := List.mem_map.mp hw
        exact (ok_app (ok_app up_ok (m3_ok v hv)) tl_ok).mono (by decide)
    · exact (m4_ok w hw).mono (by decide)
  · exact (m5_ok w hw).mono (by decide)
theorem exs_step {k : Nat} {s : Sm} {ss : List Sm} {d d1 : ME.Env} {m m1 : Sto} (h : ex k s d m = .ok .nx d1 m1) : exs k (s :: ss) d m = exs k ss d1 m1 := by rw [exs_cons, h]; rfl
theorem exs_ret {k : Nat} {s : Sm} {ss : List Sm} {d d1 : ME.Env} {m m1 : Sto} {v : D} (h : ex k s d m = .ok (.ret v) d1 m1) : fin (exs k (s :: ss) d m) = .ok v m1 := by rw [exs_cons, h]; rfl
theorem p_law {ns : List Int} (hb : ∀ z ∈ ns, Builtin.Int.intBits z ≤ 1048576) : ∃ m, F_law_k84 [.rol (ns.map D.int)] [] = .ok (.bl true) m := by
  obtain ⟨m', e7⟩ := last_row (ns := ns) (x1 := wD allL) (x2 := .str HD) (x3 := .str (sn T30)) (x4 := .str (sn T31)) (m := [])
  refine ⟨m', ?_⟩
  unfold F_law_k84
  rw [runF_eq (np := 1) rfl, lw_eq]
  show fin (exs 100 [lw0, lw1, lw2, lw3, lw4, lw5, lw6, lw7] [some (.rol (ns.map D.int)), none, none, none, none, none, none, none, none] []) = _
  rw [exs_step st0, exs_step st1, exs_step (st2 (by decide)), exs_step (st3 (by rw [List.length_append, List.length_map, List.length_map]; decide)),
    exs_step (st4 (by rw [List.length_append, List.length_append, List.length_map, List.length_map, List.length_map]; decide)),
    exs_step (st5 (by rw [List.length_append, List.length_append, List.length_append, List.length_map, List.length_map, List.length_map]; decide))]
  show fin (exs 100 [lw6, lw7] [some (.rol (ns.map D.int)), some (wD allL), some (.str HD), some (.str (sn T30)), some (.str (sn T31)), none, none, none, none] []) = _
  rw [exs_step (all_wD all_ok (by unfold allL; rw [List.length_append, List.length_append, List.length_append, List.length_append, List.length_map, List.length_map, List.length_map]; decide)), exs_ret e7]
end T84
set_option Elab.async false
set_option linter.all false
set_option maxRecDepth 100000
set_option maxHeartbeats 0
theorem PySem.Challenge.cw_shelfwithin_k84_whole_texts_of_pairs_in_holds : PySem.Challenge.rw_shelfwithin_k84_whole_texts_of_pairs_in.Holds := by
  exact T84.head_end fun ns hb => T84.p_law hb
