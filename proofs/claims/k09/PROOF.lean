import PyProof.Rows.All
import Wide.All
import OpenK.AllK
import Wide.FinOn
import HandS.ForMost
import HandS.ForExc
import HandS.CallSlots
import HandS.TupAny
import HandS.Style
import HandS.IsInst
import HandS.Sort
import HandS.Text
import HandS.Deep
import HandS.Star
import HandS.Flow
import HandS.Zip
import HandS.Comp
import HandS.SetFor
import HandS.More
import KE.DataFind
import PyProof.Rows.FactsN_isinstance
import HandS.DictComp
import KE.GoesEnum
import KE.GoesMore
import PyProof.Rows.SortShellAny
import PyProof.TupleOfSeq
import HandS.RaiseMore
import HandS.Strs
import PyProof.ReprLen
import PyProof.CallFns
import KE.KDictZip
import KE.GoesZip
import HandS.Small
import PyProof.DictUpdate
import HandS.NoneIn
import PyProof.FitsInt
import KE.KEqNest
import HandS.OwnEq
import PyProof.InstNe
import KE.KDictLaw
import PyProof.P3In
import PyProof.EqAt
import PyProof.EqKinds
import PyProof.TupleCall
import Open.SpecLaws
import KE.OsGo
import PySem.Challenge.RW_crossties_k09_whole_maps_put_together
set_option Elab.async false
section
set_option Elab.async false
set_option linter.all false
set_option maxRecDepth 100000
set_option maxHeartbeats 4000000
/-! DM1: pure data, how a heap bears it, what names own. -/
namespace DM
open PySem PySem.Spec PyProof.Rows L2

inductive D where
  | non | bl (b : Bool) | int (i : Int) | str (s : Str)
  | tup (l : List D) | lst (l : List D)
  | dic (ks : List Key) (vs : List D) | dct (ks : List (List Key)) (vs : List D)
  | obj (c : String) (ns : List Str) (vs : List D)
  /-- the script -/
  | scr (ns : List Int)
  | rng (lo hi : Int)
  /-- a tuple whose object is known: its methods may be asked -/
  | tpx (l : List D)

structure Cl where
  K : PySem.W.Frag
  cl : String → Option Addr

abbrev Sub (F H : Hp) : Prop := ∀ a o, F a = some o → H a = some o

mutual
def Rep (C : Cl) (F : Hp) : D → V → Prop
  | .non, v => v = .non
  | .bl b, v => v = .bl b
  | .int i, v => v = .int i
  | .str s, v => v = .str s ∧ s.length ≤ sizeLine ∧ PyData.strOk s = true
  | .tup ds, v => ∃ a xs, v = .ref a ∧ F a = some (.tup xs) ∧ RepL C F ds xs ∧ ds.length ≤ sizeLine
  | .lst ds, v => ∃ a xs, v = .ref a ∧ F a = some (.lst xs) ∧ RepL C F ds xs ∧ ds.length ≤ sizeLine
  | .dic ks vs, v => ∃ a xs, v = .ref a ∧ Rd F a (.dK (ks.zip xs)) ∧ RepL C F vs xs ∧ ks.length = vs.length ∧ vs.length ≤ sizeLine
  | .dct ks vs, v => ∃ a xs, v = .ref a ∧ Rd F a (.dT (ks.zip xs)) ∧ RepL C F vs xs ∧ ks.length = vs.length ∧ vs.length ≤ sizeLine
  | .obj c ns vs, v => ∃ a A dx xs, v = .ref a ∧ C.cl c = some A ∧ F a = some (.ins A dx (ns.zip xs)) ∧ RepL C F vs xs ∧ ns.length = vs.length
  | .scr ns, v => ∃ a, v = .ref a ∧ SqL C.K F a (ns.map V.int) ∧ ns.length ≤ sizeLine
  | .rng lo hi, v => ∃ a, v = .ref a ∧ F a = some (.rng lo hi)
  | .tpx ds, v => ∃ a o xs, v = .ref a ∧ F a = some (.frz o (.tup xs)) ∧ (o.cls = .type "tuple" ∧ o.dict = none) ∧ RepL C F ds xs ∧ ds.length ≤ sizeLine
def RepL (C : Cl) (F : Hp) : List D → List V → Prop
  | [], xs => xs = []
  | d :: ds, xs => ∃ x r, xs = x :: r ∧ Rep C F d x ∧ RepL C F ds r
end

section
variable {C : Cl} {F F' H H' : Hp}
theorem Sub.refl (H : Hp) : Sub H H := fun _ _ e => e
theorem Sub.trans {F G H : Hp} (a : Sub F G) (b : Sub G H) : Sub F H := fun x o e => b x o (a x o e)
theorem Sub.rd {a : Addr} {u : HO} (s : Sub F F') (h : Rd F a u) : Rd F' a u := by
  rcases h with h | ⟨o, h⟩
  · exact .inl (s _ _ h)
  · exact .inr ⟨o, s _ _ h⟩
theorem Sub.sqL {K : PySem.W.Frag} {a : Addr} {xs : List V} (s : Sub F F') (h : SqL K F a xs) : SqL K F' a xs := by
  rcases h with h | h
  · exact .inl (s.rd h)
  · exact .inr h
theorem Sub.sqT {K : PySem.W.Frag} {a : Addr} {xs : List V} (s : Sub F F') (h : SqT K F a xs) : SqT K F' a xs := by
  rcases h with h | h
  · exact .inl (s.rd h)
  · exact .inr h
theorem Sub.upd {a : Addr} {o : HO} (h : H a = none) : Sub H (upd H a o) := fun b u e => by
  rw [upd_ne (ne_of_none e h)]; exact e

mutual
theorem Rep.mono (s : Sub F F') : ∀ (d : D) (v : V), Rep C F d v → Rep C F' d v
  | .non, v, h => by unfold Rep at h ⊢; exact h
  | .bl b, v, h => by unfold Rep at h ⊢; exact h
  | .int i, v, h => by unfold Rep at h ⊢; exact h
  | .str x, v, h => by unfold Rep at h ⊢; exact h
  | .tup ds, v, h => by
    unfold Rep at h ⊢
    obtain ⟨a, xs, e, h1, h2, h3⟩ := h
    exact ⟨a, xs, e, s _ _ h1, RepL.mono s ds xs h2, h3⟩
  | .lst ds, v, h => by
    unfold Rep at h ⊢
    obtain ⟨a, xs, e, h1, h2, h3⟩ := h
    exact ⟨a, xs, e, s _ _ h1, RepL.mono s ds xs h2, h3⟩
  | .dic ks vs, v, h => by
    unfold Rep at h ⊢
    obtain ⟨a, xs, e, h1, h2, h3⟩ := h
    exact ⟨a, xs, e, s.rd h1, RepL.mono s vs xs h2, h3⟩
  | .dct ks vs, v, h => by
    unfold Rep at h ⊢
    obtain ⟨a, xs, e, h1, h2, h3⟩ := h
    exact ⟨a, xs, e, s.rd h1, RepL.mono s vs xs h2, h3⟩
  | .obj c ns vs, v, h => by
    unfold Rep at h ⊢
    obtain ⟨a, A, dx, xs, e, h0, h1, h2, h3⟩ := h
    exact ⟨a, A, dx, xs, e, h0, s _ _ h1, RepL.mono s vs xs h2, h3⟩
  | .scr ns, v, h => by
    unfold Rep at h ⊢
    obtain ⟨a, e, h1⟩ := h
    exact ⟨a, e, s.sqL h1.1, h1.2⟩
  | .rng lo hi, v, h => by
    unfold Rep at h ⊢
    obtain ⟨a, e, h1⟩ := h
    exact ⟨a, e, s _ _ h1⟩
  | .tpx ds, v, h => by
    unfold Rep at h ⊢
    obtain ⟨a, o, xs, e, h1, h0, h2, h3⟩ := h
    exact ⟨a, o, xs, e, s _ _ h1, h0, RepL.mono s ds xs h2, h3⟩
theorem RepL.mono (s : Sub F F') : ∀ (ds : List D) (xs : List V), RepL C F ds xs → RepL C F' ds xs
  | [], xs, h => by unfold RepL at h ⊢; exact h
  | d :: ds, xs, h => by
    unfold RepL at h ⊢
    obtain ⟨x, r, e, h1, h2⟩ := h
    exact ⟨x, r, e, Rep.mono s d x h1, RepL.mono s ds r h2⟩
end
theorem RepL.nil : RepL C F [] [] := by unfold RepL; rfl
theorem RepL.cons {d : D} {ds : List D} {x : V} {xs : List V} (h : Rep C F d x) (t : RepL C F ds xs) : RepL C F (d :: ds) (x :: xs) := by
  unfold RepL; exact ⟨x, xs, rfl, h, t⟩
theorem RepL.length : ∀ {ds : List D} {xs : List V}, RepL C F ds xs → ds.length = xs.length
  | [], xs, h => by unfold RepL at h; subst h; rfl
  | d :: ds, xs, h => by
    unfold RepL at h
    obtain ⟨x, r, rfl, _, h2⟩ := h
    simp [RepL.length h2]
theorem RepL.get : ∀ {ds : List D} {xs : List V} {i : Nat} {d : D}, RepL C F ds xs → ds[i]? = some d → ∃ x, xs[i]? = some x ∧ Rep C F d x
  | [], _, _, _, _, e => by simp at e
  | d :: ds, xs, 0, d', h, e => by
    unfold RepL at h
    obtain ⟨x, r, rfl, h1, _⟩ := h
    simp at e; subst e
    exact ⟨x, rfl, h1⟩
  | d :: ds, xs, i + 1, d', h, e => by
    unfold RepL at h
    obtain ⟨x, r, rfl, _, h2⟩ := h
    exact RepL.get (i := i) h2 (by simpa using e)
theorem RepL.append : ∀ {ds es : List D} {xs ys : List V}, RepL C F ds xs → RepL C F es ys → RepL C F (ds ++ es) (xs ++ ys)
  | [], _, xs, _, h, k => by unfold RepL at h; subst h; exact k
  | d :: ds, _, xs, _, h, k => by
    unfold RepL at h
    obtain ⟨x, r, rfl, h1, h2⟩ := h
    exact RepL.cons h1 (RepL.append h2 k)
theorem RepL.take : ∀ (n : Nat) {ds : List D} {xs : List V}, RepL C F ds xs → RepL C F (ds.take n) (xs.take n)
  | 0, _, _, _ => by simp only [List.take_zero]; exact RepL.nil
  | n + 1, [], xs, h => by unfold RepL at h; subst h; exact RepL.nil
  | n + 1, d :: ds, xs, h => by
    unfold RepL at h
    obtain ⟨x, r, rfl, h1, h2⟩ := h
    exact RepL.cons h1 (RepL.take n h2)
theorem RepL.drop : ∀ (n : Nat) {ds : List D} {xs : List V}, RepL C F ds xs → RepL C F (ds.drop n) (xs.drop n)
  | 0, _, _, h => h
  | n + 1, [], xs, h => by unfold RepL at h; subst h; exact RepL.nil
  | n + 1, d :: ds, xs, h => by
    unfold RepL at h
    obtain ⟨x, r, rfl, h1, h2⟩ := h
    exact RepL.drop n h2
theorem RepL.reverse : ∀ {ds : List D} {xs : List V}, RepL C F ds xs → RepL C F ds.reverse xs.reverse
  | [], xs, h => by unfold RepL at h; subst h; exact RepL.nil
  | d :: ds, xs, h => by
    unfold RepL at h
    obtain ⟨x, r, rfl, h1, h2⟩ := h
    rw [List.reverse_cons, List.reverse_cons]
    exact RepL.append (RepL.reverse h2) (RepL.cons h1 RepL.nil)
end

/-! ### ownership -/
/-- the parts of an owned thing: each with its own addresses -/
def OwnL (P : D → V → List Addr → Prop) : List D → List V → List Addr → Prop
  | [], xs, fp => xs = [] ∧ fp = []
  | d :: ds, xs, fp => ∃ x r f g, xs = x :: r ∧ fp = f ++ g ∧ P d x f ∧ OwnL P ds r g
/-- d is owned to the depth n: the objects of the first n levels stand at the addresses fp, which F does not know; below all is frozen -/
def Own (C : Cl) (F H : Hp) : Nat → D → V → List Addr → Prop
  | 0, d, v, fp => fp = [] ∧ Rep C F d v
  | n + 1, .lst ds, v, fp => ∃ a xs g, v = .ref a ∧ fp = a :: g ∧ H a = some (.lst xs) ∧ OwnL (Own C F H n) ds xs g ∧ ds.length ≤ sizeLine
  | n + 1, .tup ds, v, fp => ∃ a xs, v = .ref a ∧ F a = some (.tup xs) ∧ OwnL (Own C F H n) ds xs fp ∧ ds.length ≤ sizeLine
  | n + 1, .dic ks vs, v, fp => ∃ a xs g, v = .ref a ∧ fp = a :: g ∧ H a = some (.dK (ks.zip xs)) ∧ OwnL (Own C F H n) vs xs g ∧ ks.length = vs.length ∧ vs.length ≤ sizeLine
  | n + 1, .dct ks vs, v, fp => ∃ a xs g, v = .ref a ∧ fp = a :: g ∧ H a = some (.dT (ks.zip xs)) ∧ OwnL (Own C F H n) vs xs g ∧ ks.length = vs.length ∧ vs.length ≤ sizeLine
  | n + 1, .obj c ns vs, v, fp => ∃ a A dx xs g, v = .ref a ∧ fp = a :: g ∧ C.cl c = some A ∧ H a = some (.ins A dx (ns.zip xs)) ∧ OwnL (Own C F H n) vs xs g ∧ ns.length = vs.length
  | n + 1, d, v, fp => fp = [] ∧ Rep C F d v

section
variable {C : Cl} {F F' H H' : Hp}
theorem OwnL.imp {P Q : D → V → List Addr → Prop} : ∀ {ds : List D} {xs : List V} {fp : List Addr}, OwnL P ds xs fp → (∀ d x f, (∀ a ∈ f, a ∈ fp) → P d x f → Q d x f) → OwnL Q ds xs fp
  | [], _, _, h, _ => h
  | d :: ds, xs, fp, h, k => by
    obtain ⟨x, r, f, g, e1, e2, h1, h2⟩ := h
    exact ⟨x, r, f, g, e1, e2, k _ _ _ (fun a ha => by rw [e2]; exact List.mem_append_left _ ha) h1, OwnL.imp h2 fun d x f hf => k d x f fun a ha => by rw [e2]; exact List.mem_append_right _ (hf a ha)⟩
theorem OwnL.length {P : D → V → List Addr → Prop} : ∀ {ds : List D} {xs : List V} {fp : List Addr}, OwnL P ds xs fp → ds.length = xs.length
  | [], _, _, h => by obtain ⟨e, _⟩ := h; subst e; rfl
  | d :: ds, xs, fp, h => by
    obtain ⟨x, r, f, g, e1, e2, h1, h2⟩ := h
    subst e1
    simp [OwnL.length h2]
theorem OwnL.of_rep : ∀ {ds : List D} {xs : List V}, RepL C F ds xs → OwnL (Own C F H 0) ds xs []
  | [], xs, h => by unfold RepL at h; exact ⟨h, rfl⟩
  | d :: ds, xs, h => by
    unfold RepL at h
    obtain ⟨x, r, e, h1, h2⟩ := h
    exact ⟨x, r, [], [], e, rfl, ⟨rfl, h1⟩, OwnL.of_rep h2⟩
theorem OwnL.to_rep : ∀ {ds : List D} {xs : List V} {fp : List Addr}, OwnL (Own C F H 0) ds xs fp → RepL C F ds xs ∧ fp = []
  | [], xs, fp, h => by obtain ⟨e, e2⟩ := h; exact ⟨by unfold RepL; exact e, e2⟩
  | d :: ds, xs, fp, h => by
    obtain ⟨x, r, f, g, e1, e2, ⟨e3, h1⟩, h2⟩ := h
    obtain ⟨h3, e4⟩ := OwnL.to_rep h2
    subst e1 e3 e4
    exact ⟨RepL.cons h1 h3, e2⟩
/-- what is owned stays so where its own objects stand and F grows -/
theorem Own.mono (s : Sub F F') : ∀ (n : Nat) (d : D) (v : V) (fp : List Addr), (∀ a ∈ fp, ∀ o, H a = some o → H' a = some o) → Own C F H n d v fp → Own C F' H' n d v fp := by
  intro n
  induction n with
  | zero => intro d v fp k h; exact ⟨h.1, Rep.mono s d v h.2⟩
  | succ n ih =>
    intro d v fp k h
    have kids : ∀ {ds : List D} {xs : List V} {a : Addr} {g : List Addr}, fp = a :: g → OwnL (Own C F H n) ds xs g → OwnL (Own C F' H' n) ds xs g := fun e hk =>
      OwnL.imp hk fun d x f hf h1 => ih d x f (fun b hb o e' => k b (by rw [e]; exact List.mem_cons_of_mem _ (hf b hb)) o e') h1
    have hd : ∀ {a : Addr} {g : List Addr} {o : HO}, fp = a :: g → H a = some o → H' a = some o := fun e e' => k _ (by rw [e]; exact List.mem_cons_self) _ e'
    cases d with
    | non => exact ⟨h.1, Rep.mono s _ v h.2⟩
    | bl b => exact ⟨h.1, Rep.mono s _ v h.2⟩
    | int b => exact ⟨h.1, Rep.mono s _ v h.2⟩
    | str b => exact ⟨h.1, Rep.mono s _ v h.2⟩
    | scr b => exact ⟨h.1, Rep.mono s _ v h.2⟩
    | rng b c => exact ⟨h.1, Rep.mono s _ v h.2⟩
    | tpx b => exact ⟨h.1, Rep.mono s _ v h.2⟩
    | lst ds => obtain ⟨a, xs, g, e1, e2, e3, h1, z⟩ := h; exact ⟨a, xs, g, e1, e2, hd e2 e3, kids e2 h1, z⟩
    | tup ds =>
      obtain ⟨a, xs, e1, e3, h1, z⟩ := h
      exact ⟨a, xs, e1, s _ _ e3, OwnL.imp h1 fun d x f hf h1 => ih d x f (fun b hb o e' => k b (hf b hb) o e') h1, z⟩
    | dic ks vs => obtain ⟨a, xs, g, e1, e2, e3, h1, z⟩ := h; exact ⟨a, xs, g, e1, e2, hd e2 e3, kids e2 h1, z⟩
    | dct ks vs => obtain ⟨a, xs, g, e1, e2, e3, h1, z⟩ := h; exact ⟨a, xs, g, e1, e2, hd e2 e3, kids e2 h1, z⟩
    | obj c ns vs => obtain ⟨a, A, dx, xs, g, e1, e2, e0, e3, h1, z⟩ := h; exact ⟨a, A, dx, xs, g, e1, e2, e0, hd e2 e3, kids e2 h1, z⟩
theorem OwnL.rep {P : D → V → List Addr → Prop} : ∀ {ds : List D} {xs : List V} {fp : List Addr}, OwnL P ds xs fp → (∀ d x f, (∀ a ∈ f, a ∈ fp) → P d x f → Rep C F d x) → RepL C F ds xs
  | [], _, _, h, _ => by unfold RepL; exact h.1
  | d :: ds, xs, fp, h, k => by
    obtain ⟨x, r, f, g, e1, e2, h1, h2⟩ := h
    subst e1
    exact RepL.cons (k _ _ _ (fun a ha => by rw [e2]; exact List.mem_append_left _ ha) h1) (OwnL.rep h2 fun d x f hf => k d x f fun a ha => by rw [e2]; exact List.mem_append_right _ (hf a ha))
/-- frozen: where F' knows all that fp has -/
theorem Own.rep (s : Sub F F') : ∀ (n : Nat) (d : D) (v : V) (fp : List Addr), (∀ a ∈ fp, ∀ o, H a = some o → F' a = some o) → Own C F H n d v fp → Rep C F' d v := by
  intro n
  induction n with
  | zero => intro d v fp k h; exact Rep.mono s d v h.2
  | succ n ih =>
    intro d v fp k h
    have kids : ∀ {ds : List D} {xs : List V} {a : Addr} {g : List Addr}, fp = a :: g → OwnL (Own C F H n) ds xs g → RepL C F' ds xs := fun e hk =>
      OwnL.rep hk fun d x f hf h1 => ih d x f (fun b hb o e' => k b (by rw [e]; exact List.mem_cons_of_mem _ (hf b hb)) o e') h1
    have hd : ∀ {a : Addr} {g : List Addr} {o : HO}, fp = a :: g → H a = some o → F' a = some o := fun e e' => k _ (by rw [e]; exact List.mem_cons_self) _ e'
    cases d with
    | non => exact Rep.mono s _ v h.2
    | bl b => exact Rep.mono s _ v h.2
    | int b => exact Rep.mono s _ v h.2
    | str b => exact Rep.mono s _ v h.2
    | scr b => exact Rep.mono s _ v h.2
    | rng b c => exact Rep.mono s _ v h.2
    | tpx b => exact Rep.mono s _ v h.2
    | lst ds => obtain ⟨a, xs, g, e1, e2, e3, h1, z⟩ := h; unfold Rep; exact ⟨a, xs, e1, hd e2 e3, kids e2 h1, z⟩
    | tup ds =>
      obtain ⟨a, xs, e1, e3, h1, z⟩ := h
      unfold Rep
      exact ⟨a, xs, e1, s _ _ e3, OwnL.rep h1 fun d x f hf h1 => ih d x f (fun b hb o e' => k b (hf b hb) o e') h1, z⟩
    | dic ks vs => obtain ⟨a, xs, g, e1, e2, e3, h1, z⟩ := h; unfold Rep; exact ⟨a, xs, e1, .inl (hd e2 e3), kids e2 h1, z⟩
    | dct ks vs => obtain ⟨a, xs, g, e1, e2, e3, h1, z⟩ := h; unfold Rep; exact ⟨a, xs, e1, .inl (hd e2 e3), kids e2 h1, z⟩
    | obj c ns vs => obtain ⟨a, A, dx, xs, g, e1, e2, e0, e3, h1, z⟩ := h; unfold Rep; exact ⟨a, A, dx, xs, e1, e0, hd e2 e3, kids e2 h1, z⟩
theorem Own.rep_H {n : Nat} {d : D} {v : V} {fp : List Addr} (s : Sub F H) (h : Own C F H n d v fp) : Rep C H d v := Own.rep s n d v fp (fun _ _ _ e => e) h
/-- its objects are there -/
theorem OwnL.live {P : D → V → List Addr → Prop} : ∀ {ds : List D} {xs : List V} {fp : List Addr}, OwnL P ds xs fp → (∀ d x f, P d x f → ∀ a ∈ f, ∃ o, H a = some o) → ∀ a ∈ fp, ∃ o, H a = some o
  | [], _, _, h, _, a, ha => by rw [h.2] at ha; cases ha
  | d :: ds, xs, fp, h, k, a, ha => by
    obtain ⟨x, r, f, g, e1, e2, h1, h2⟩ := h
    rw [e2] at ha
    rcases List.mem_append.mp ha with z | z
    · exact k _ _ _ h1 a z
    · exact OwnL.live h2 k a z
theorem Own.live : ∀ (n : Nat) (d : D) (v : V) (fp : List Addr), Own C F H n d v fp → ∀ a ∈ fp, ∃ o, H a = some o := by
  intro n
  induction n with
  | zero => intro d v fp h a ha; rw [h.1] at ha; cases ha
  | succ n ih =>
    intro d v fp h a ha
    have kids : ∀ {ds : List D} {xs : List V} {b : Addr} {g : List Addr} {o : HO}, fp = b :: g → H b = some o → OwnL (Own C F H n) ds xs g → ∃ o, H a = some o := fun e eb hk => by
      rw [e] at ha
      rcases List.mem_cons.mp ha with z | z
      · exact ⟨_, by rw [z]; exact eb⟩
      · exact OwnL.live hk (fun d x f => ih d x f) a z
    have no : fp = [] → ∃ o, H a = some o := fun e => by rw [e] at ha; cases ha
    cases d with
    | non => exact no h.1
    | bl b => exact no h.1
    | int b => exact no h.1
    | str b => exact no h.1
    | scr b => exact no h.1
    | rng b c => exact no h.1
    | tpx b => exact no h.1
    | lst ds => obtain ⟨a, xs, g, e1, e2, e3, h1, z⟩ := h; exact kids e2 e3 h1
    | tup ds =>
      obtain ⟨b, xs, e1, e3, h1, z⟩ := h
      exact OwnL.live h1 (fun d x f => ih d x f) a ha
    | dic ks vs => obtain ⟨a, xs, g, e1, e2, e3, h1, z⟩ := h; exact kids e2 e3 h1
    | dct ks vs => obtain ⟨a, xs, g, e1, e2, e3, h1, z⟩ := h; exact kids e2 e3 h1
    | obj c ns vs => obtain ⟨a, A, dx, xs, g, e1, e2, e0, e3, h1, z⟩ := h; exact kids e2 e3 h1
end
end DM
end
section
set_option autoImplicit false
set_option Elab.async false
set_option linter.all false
set_option maxRecDepth 100000
set_option maxHeartbeats 4000000
/-! DM2: modes of names, the state's relation, results, readings. -/
namespace DM
open PySem PySem.Spec PyProof.Rows L2

/-- a name's mode: frozen, borrowed (read only), owned to a depth k + 1 -/
inductive Md where
  | fz | bo | ow (k : Nat)
  deriving DecidableEq
abbrev DEnv := List (Option D)
abbrev Sl := L2.St

/-- readable: frozen, or a list, a dict, .. with frozen members -/
def Opd (C : Cl) (F H : Hp) (d : D) (v : V) : Prop := Rep C F d v ∨ ∃ fp, Own C F H 1 d v fp
def SlotR (C : Cl) (F H : Hp) (U : List Addr) : Md → D → V → List Addr → Prop
  | .fz, d, v, fp => fp = [] ∧ Rep C F d v
  | .bo, d, v, fp => fp = [] ∧ (Rep C F d v ∨ ∃ g, Own C F H 1 d v g ∧ ∀ a ∈ g, a ∉ U)
  | .ow k, d, v, fp => Own C F H (k + 1) d v fp
/-- ex: owned addresses of values under way -/
structure Rel (C : Cl) (pin : List (Nat × V)) (G : List Md) (F H : Hp) (σ : Sl) (ρ : DEnv) (fps : List (List Addr)) (ex : List Addr) : Prop where
  sub : Sub F H
  tups : ∀ a xs, H a = some (.tup xs) → F a = some (.tup xs)
  ls : σ.length = ρ.length
  lf : fps.length = ρ.length
  lg : G.length = ρ.length
  nd : (ex ++ fps.flatten).Nodup
  out : ∀ a ∈ ex ++ fps.flatten, F a = none
  live : ∀ a ∈ ex ++ fps.flatten, ∃ o, H a = some o
  slot : ∀ i d, ρ[i]? = some (some d) → ∃ v fp, σ[i]? = some (some v) ∧ fps[i]? = some fp ∧ SlotR C F H (ex ++ fps.flatten) (G.getD i .fz) d v fp
  pn : ∀ p ∈ pin, σ[p.1]? = some (some p.2)
/-- from F, H with the owned addresses U to F', H' with U' -/
structure Ext (F H : Hp) (U : List Addr) (F' H' : Hp) (U' : List Addr) : Prop where
  e1 : Sub F F'
  e2 : ∀ a o, H a = some o → a ∉ U → H' a = some o
  e3 : ∀ a o, F' a = some o → F a = some o ∨ a ∈ U ∨ H a = none
  e4 : ∀ a ∈ U', a ∈ U ∨ H a = none

section
variable {C : Cl} {pin : List (Nat × V)} {G : List Md} {F F1 F2 F' H H1 H2 H' : Hp} {U U1 U2 U' : List Addr} {σ : Sl} {ρ : DEnv} {fps : List (List Addr)} {ex : List Addr}
theorem Ext.refl (F H : Hp) (U : List Addr) : Ext F H U F H U := ⟨Sub.refl F, fun _ _ e _ => e, fun _ _ e => .inl e, fun _ h => .inl h⟩
theorem Ext.trans (a : Ext F H U F1 H1 U1) (b : Ext F1 H1 U1 F2 H2 U2) : Ext F H U F2 H2 U2 where
  e1 := a.e1.trans b.e1
  e2 := fun x o e n => b.e2 x o (a.e2 x o e n) fun z => (a.e4 x z).elim n fun q => by rw [q] at e; cases e
  e3 := fun x o e => by
    rcases b.e3 x o e with h | h | h
    · exact a.e3 x o h
    · exact .inr (a.e4 x h)
    · cases q : H x with
      | none => exact .inr (.inr rfl)
      | some u =>
        refine .inr (.inl ?_)
        by_cases hU : x ∈ U
        · exact hU
        · have z := a.e2 x u q hU
          rw [h] at z; cases z
  e4 := fun x hx => by
    rcases b.e4 x hx with h | h
    · exact a.e4 x h
    · cases q : H x with
      | none => exact .inr rfl
      | some u =>
        refine .inl ?_
        by_cases hU : x ∈ U
        · exact hU
        · have z := a.e2 x u q hU
          rw [h] at z; cases z
theorem Ext.less (a : Ext F H U F1 H1 U1) (h : ∀ x ∈ U2, x ∈ U1) : Ext F H U F1 H1 U2 := ⟨a.e1, a.e2, a.e3, fun x hx => a.e4 x (h x hx)⟩
theorem Ext.more (a : Ext F H U F1 H1 U1) (h : ∀ x ∈ U, x ∈ U2) : Ext F H U2 F1 H1 U1 := ⟨a.e1, fun x o e n => a.e2 x o e fun z => n (h x z), fun x o e => (a.e3 x o e).imp_right (Or.imp_left (h x)), fun x hx => (a.e4 x hx).imp_left (h x)⟩
/-- a new object that nobody owns yet, unknown to F -/
theorem Ext.new {p : Addr} {o : HO} (h : H p = none) : Ext F H U F (upd H p o) (p :: U) :=
  ⟨Sub.refl F, fun a u e _ => by rw [upd_ne (ne_of_none e h)]; exact e, fun _ _ e => .inl e, fun a ha => by
    rcases List.mem_cons.mp ha with z | z
    · exact .inr (by rw [z]; exact h)
    · exact .inl z⟩
theorem Sub.non (s : Sub F H) {p : Addr} (h : H p = none) : F p = none := by
  cases q : F p with
  | none => rfl
  | some o => have z := s p o q; rw [h] at z; cases z
/-- a new object, frozen at once -/
theorem Ext.newF (s : Sub F H) {p : Addr} {o : HO} (h : H p = none) : Ext F H U (upd F p o) (upd H p o) U :=
  ⟨Sub.upd (s.non h), fun a u e _ => by rw [upd_ne (ne_of_none e h)]; exact e, fun a u e => by
      by_cases q : a = p
      · exact .inr (.inr (by rw [q]; exact h))
      · rw [upd_ne q] at e; exact .inl e, fun a ha => .inl ha⟩
theorem Sub.upd2 (s : Sub F H) {p : Addr} {o : HO} : Sub (L2.upd F p o) (L2.upd H p o) := fun a u e => by
  by_cases q : a = p
  · subst q; rw [upd_same] at e ⊢; exact e
  · rw [upd_ne q] at e ⊢; exact s a u e
/-! ### lists of owned addresses -/
theorem flatten_set_sub : ∀ {l : List (List Addr)} {i : Nat} {f : List Addr} {x : Addr}, x ∈ (l.set i f).flatten → x ∈ f ∨ x ∈ l.flatten
  | [], _, _, _, h => by simp at h
  | g :: l, 0, f, x, h => by
    simp only [List.set_cons_zero, List.flatten_cons, List.mem_append] at h ⊢
    rcases h with h | h
    · exact .inl h
    · exact .inr (.inr h)
  | g :: l, i + 1, f, x, h => by
    simp only [List.set_cons_succ, List.flatten_cons, List.mem_append] at h ⊢
    rcases h with h | h
    · exact .inr (.inl h)
    · rcases flatten_set_sub h with z | z
      · exact .inl z
      · exact .inr (.inr z)
theorem mem_flatten_get {l : List (List Addr)} {i : Nat} {f : List Addr} {x : Addr} (h : l[i]? = some f) (hx : x ∈ f) : x ∈ l.flatten :=
  List.mem_flatten.mpr ⟨f, List.mem_of_getElem? h, hx⟩
/-- the i-th part is changed: new addresses are apart from the other parts -/
theorem nodup_set : ∀ {l : List (List Addr)} {i : Nat} {f : List Addr}, l.flatten.Nodup → f.Nodup → (∀ j g, j ≠ i → l[j]? = some g → ∀ x ∈ f, x ∉ g) → (l.set i f).flatten.Nodup
  | [], _, _, h, _, _ => by simp
  | g :: l, 0, f, h, hf, hd => by
    simp only [List.set_cons_zero, List.flatten_cons] at h ⊢
    rw [List.nodup_append] at h ⊢
    refine ⟨hf, h.2.1, fun a ha b hb e => ?_⟩
    subst e
    obtain ⟨q, hq, hm⟩ := List.mem_flatten.mp hb
    obtain ⟨j, hj⟩ := List.getElem?_of_mem hq
    exact hd (j + 1) q (by omega) (by simpa using hj) a ha hm
  | g :: l, i + 1, f, h, hf, hd => by
    simp only [List.set_cons_succ, List.flatten_cons] at h ⊢
    rw [List.nodup_append] at h ⊢
    refine ⟨h.1, nodup_set h.2.1 hf fun j q hj hq => hd (j + 1) q (by omega) (by simpa using hq), fun a ha b hb e => ?_⟩
    subst e
    rcases flatten_set_sub hb with z | z
    · exact hd 0 g (by omega) rfl a z ha
    · exact h.2.2 a ha a z rfl
/-- two parts are apart -/
theorem apart_parts : ∀ {l : List (List Addr)} {i j : Nat} {f g : List Addr} {x : Addr}, l.flatten.Nodup → i ≠ j → l[i]? = some f → l[j]? = some g → x ∈ f → x ∈ g → False
  | [], i, _, _, _, _, _, _, h, _, _, _ => by simp at h
  | a :: l, 0, 0, _, _, _, _, n, _, _, _, _ => n rfl
  | a :: l, 0, j + 1, f, g, x, h, _, hi, hj, hf, hg => by
    simp only [List.flatten_cons] at h
    rw [List.nodup_append] at h
    have e : a = f := by simpa using hi
    exact h.2.2 x (by rw [e]; exact hf) x (mem_flatten_get (i := j) (by simpa using hj) hg) rfl
  | a :: l, i + 1, 0, f, g, x, h, _, hi, hj, hf, hg => by
    simp only [List.flatten_cons] at h
    rw [List.nodup_append] at h
    have e : a = g := by simpa using hj
    exact h.2.2 x (by rw [e]; exact hg) x (mem_flatten_get (i := i) (by simpa using hi) hf) rfl
  | a :: l, i + 1, j + 1, f, g, x, h, n, hi, hj, hf, hg => by
    simp only [List.flatten_cons] at h
    rw [List.nodup_append] at h
    exact apart_parts (i := i) (j := j) h.2.1 (by omega) (by simpa using hi) (by simpa using hj) hf hg
theorem part_nodup {l : List (List Addr)} {i : Nat} {f : List Addr} (h : l.flatten.Nodup) (e : l[i]? = some f) : f.Nodup := by
  induction l generalizing i with
  | nil => simp at e
  | cons a l ih =>
    simp only [List.flatten_cons] at h
    rw [List.nodup_append] at h
    cases i with
    | zero => have q : a = f := by simpa using e
              rw [← q]; exact h.1
    | succ i => exact ih h.2.1 (by simpa using e)

/-! ### the relation's steps -/
theorem Opd.mono {d : D} {v : V} (s : Sub F F') (k : ∀ a o, H a = some o → H' a = some o) (h : Opd C F H d v) : Opd C F' H' d v := by
  rcases h with h | ⟨fp, h⟩
  · exact .inl (Rep.mono s d v h)
  · exact .inr ⟨fp, Own.mono s 1 d v fp (fun a _ o e => k a o e) h⟩
theorem Opd.rep {d : D} {v : V} (s : Sub F H) (h : Opd C F H d v) : Rep C H d v := by
  rcases h with h | ⟨fp, h⟩
  · exact Rep.mono s d v h
  · exact h.rep_H s
theorem SlotR.mono {U : List Addr} {md : Md} {d : D} {v : V} {fp : List Addr} (s : Sub F F') (k1 : ∀ a ∈ fp, ∀ o, H a = some o → H' a = some o) (k2 : ∀ a o, H a = some o → a ∉ U → H' a = some o) (h : SlotR C F H U md d v fp) : SlotR C F' H' U md d v fp := by
  cases md with
  | fz => exact ⟨h.1, Rep.mono s d v h.2⟩
  | ow n => exact Own.mono s _ d v fp k1 h
  | bo =>
    refine ⟨h.1, ?_⟩
    rcases h.2 with h | ⟨g, h, n⟩
    · exact .inl (Rep.mono s d v h)
    · exact .inr ⟨g, Own.mono s 1 d v g (fun a ha o e => k2 a o e (n a ha)) h, n⟩
theorem SlotR.go {U' : List Addr} {md : Md} {d : D} {v : V} {fp : List Addr} (s : Sub F F') (k1 : ∀ a ∈ fp, ∀ o, H a = some o → H' a = some o) (k2 : ∀ a o, H a = some o → a ∉ U → H' a = some o)
    (l : ∀ a ∈ U', (∃ o, H a = some o) → a ∈ U) (h : SlotR C F H U md d v fp) : SlotR C F' H' U' md d v fp := by
  cases md with
  | fz => exact ⟨h.1, Rep.mono s d v h.2⟩
  | ow n => exact Own.mono s _ d v fp k1 h
  | bo =>
    refine ⟨h.1, ?_⟩
    rcases h.2 with h | ⟨g, h, n⟩
    · exact .inl (Rep.mono s d v h)
    · exact .inr ⟨g, Own.mono s 1 d v g (fun a ha o e => k2 a o e (n a ha)) h, fun a ha z => n a ha (l a z (Own.live 1 d v g h a ha))⟩
theorem SlotR.less {U' : List Addr} {md : Md} {d : D} {v : V} {fp : List Addr} (h : SlotR C F H U md d v fp) (l : ∀ a ∈ U', (∃ o, H a = some o) → a ∈ U) : SlotR C F H U' md d v fp := by
  cases md with
  | fz => exact h
  | ow n => exact h
  | bo =>
    refine ⟨h.1, ?_⟩
    rcases h.2 with h | ⟨g, h, n⟩
    · exact .inl h
    · exact .inr ⟨g, h, fun a ha z => n a ha (l a z (Own.live 1 d v g h a ha))⟩
/-- new objects, F grown -/
theorem Rel.grow (r : Rel C pin G F H σ ρ fps ex) (s : Sub F F') (s' : Sub F' H') (k : ∀ a o, H a = some o → H' a = some o) (n : ∀ a ∈ ex ++ fps.flatten, F' a = none) (t : ∀ a xs, H' a = some (.tup xs) → F' a = some (.tup xs)) : Rel C pin G F' H' σ ρ fps ex :=
  ⟨s', t, r.ls, r.lf, r.lg, r.nd, n, fun a ha => (r.live a ha).imp fun o e => k a o e, fun i d e => by
    obtain ⟨v, fp, e1, e2, h⟩ := r.slot i d e
    exact ⟨v, fp, e1, e2, h.mono s (fun a _ o e => k a o e) fun a o e _ => k a o e⟩, r.pn⟩
theorem Rel.less {ex' : List Addr} (r : Rel C pin G F H σ ρ fps ex) (h : ∀ a ∈ ex', a ∈ ex) (n : ex'.Nodup) : Rel C pin G F H σ ρ fps ex' := by
  have sub : ∀ a ∈ ex' ++ fps.flatten, a ∈ ex ++ fps.flatten := fun a ha => (List.mem_append.mp ha).elim (fun z => List.mem_append_left _ (h a z)) fun z => List.mem_append_right _ z
  have nd := List.nodup_append.mp r.nd
  exact ⟨r.sub, r.tups, r.ls, r.lf, r.lg, List.nodup_append.mpr ⟨n, nd.2.1, fun a ha b hb => nd.2.2 a (h a ha) b hb⟩, fun a ha => r.out a (sub a ha), fun a ha => r.live a (sub a ha), fun i d e => by
    obtain ⟨v, fp, e1, e2, h⟩ := r.slot i d e
    exact ⟨v, fp, e1, e2, h.less fun a ha _ => sub a ha⟩, r.pn⟩
theorem Rel.perm {ex' : List Addr} (r : Rel C pin G F H σ ρ fps ex) (h : ∀ a, a ∈ ex' ↔ a ∈ ex) (n : ex'.Nodup) : Rel C pin G F H σ ρ fps ex' := r.less (fun a ha => (h a).mp ha) n
theorem Rel.drop {f : List Addr} (r : Rel C pin G F H σ ρ fps (f ++ ex)) : Rel C pin G F H σ ρ fps ex :=
  r.less (fun a ha => List.mem_append_right _ ha) (List.nodup_append.mp (List.nodup_append.mp r.nd).1).2.1
/-- a new object under way -/
theorem Rel.new (r : Rel C pin G F H σ ρ fps ex) {p : Addr} {o : HO} (h : H p = none) (nt : ∀ xs, o ≠ .tup xs) : Rel C pin G F (upd H p o) σ ρ fps (p :: ex) := by
  have k : ∀ a u, H a = some u → upd H p o a = some u := fun a u e => Sub.upd h a u e
  have ne : ∀ a ∈ ex ++ fps.flatten, a ≠ p := fun a ha e => by
    subst e
    obtain ⟨u, e⟩ := r.live a ha
    rw [h] at e; cases e
  refine ⟨fun a u e => k a u (r.sub a u e), fun a xs e => by
    by_cases q : a = p
    · subst q; rw [upd_same] at e; cases e; exact absurd rfl (nt xs)
    · rw [upd_ne q] at e; exact r.tups a xs e, r.ls, r.lf, r.lg, List.nodup_cons.mpr ⟨fun z => ne p z rfl, r.nd⟩, fun a ha => ?_, fun a ha => ?_, fun i d e => ?_, r.pn⟩
  · rcases List.mem_cons.mp ha with z | z
    · rw [z]; exact r.sub.non h
    · exact r.out a z
  · rcases List.mem_cons.mp ha with z | z
    · exact ⟨o, by rw [z]; exact upd_same⟩
    · exact (r.live a z).imp fun u e => k a u e
  · obtain ⟨v, fp, e1, e2, q⟩ := r.slot i d e
    refine ⟨v, fp, e1, e2, (q.less (U' := p :: (ex ++ fps.flatten)) fun a ha hl => ?_).mono (Sub.refl F) (fun a _ o e => k a o e) fun a o e _ => k a o e⟩
    rcases List.mem_cons.mp ha with z | z
    · obtain ⟨u, e⟩ := hl
      rw [z, h] at e; cases e
    · exact z
theorem Rel.newF (r : Rel C pin G F H σ ρ fps ex) {p : Addr} {o : HO} (h : H p = none) : Rel C pin G (upd F p o) (upd H p o) σ ρ fps ex :=
  r.grow (Sub.upd (r.sub.non h)) r.sub.upd2 (Sub.upd h) (fun a ha => by
    rw [upd_ne]
    · exact r.out a ha
    · rintro rfl
      obtain ⟨u, e⟩ := r.live a ha
      rw [h] at e; cases e) fun a xs e => by
    by_cases q : a = p
    · subst q; rw [upd_same] at e ⊢; exact e
    · rw [upd_ne q] at e ⊢; exact r.tups a xs e
/-- a name's value -/
theorem Rel.opd (r : Rel C pin G F H σ ρ fps ex) {i : Nat} {d : D} (e : ρ[i]? = some (some d)) (hm : ∀ k, G.getD i .fz ≠ .ow (k + 1)) : ∃ v, σ[i]? = some (some v) ∧ Opd C F H d v := by
  obtain ⟨v, fp, e1, e2, h⟩ := r.slot i d e
  refine ⟨v, e1, ?_⟩
  cases q : G.getD i .fz with
  | fz => rw [q] at h; exact .inl h.2
  | bo =>
    rw [q] at h
    rcases h.2 with h | ⟨g, h, _⟩
    · exact .inl h
    · exact .inr ⟨g, h⟩
  | ow k =>
    rw [q] at h
    cases k with
    | zero => exact .inr ⟨fp, h⟩
    | succ k => exact absurd q (hm k)
theorem Rel.rdH (r : Rel C pin G F H σ ρ fps ex) {i : Nat} {d : D} (e : ρ[i]? = some (some d)) : ∃ v, σ[i]? = some (some v) ∧ Rep C H d v := by
  obtain ⟨v, fp, e1, e2, h⟩ := r.slot i d e
  refine ⟨v, e1, ?_⟩
  cases q : G.getD i .fz with
  | fz => rw [q] at h; exact Rep.mono r.sub d v h.2
  | bo =>
    rw [q] at h
    rcases h.2 with h | ⟨g, h, _⟩
    · exact Rep.mono r.sub d v h
    · exact h.rep_H r.sub
  | ow k =>
    rw [q] at h
    exact Own.rep_H r.sub h
theorem Rel.fzv (r : Rel C pin G F H σ ρ fps ex) {i : Nat} {d : D} (e : ρ[i]? = some (some d)) (hm : G.getD i .fz = .fz) : ∃ v, σ[i]? = some (some v) ∧ Rep C F d v := by
  obtain ⟨v, fp, e1, e2, h⟩ := r.slot i d e
  rw [hm] at h
  exact ⟨v, e1, h.2⟩
theorem getD_set_self {G : List Md} {i : Nat} {md : Md} (h : i < G.length) : (G.set i md).getD i .fz = md := by
  rw [List.getD_eq_getElem?_getD, List.getElem?_set_self h]; rfl
theorem getD_set_ne {G : List Md} {i j : Nat} {md : Md} (h : j ≠ i) : (G.set i md).getD j .fz = G.getD j .fz := by
  rw [List.getD_eq_getElem?_getD, List.getElem?_set_ne (Ne.symm h), ← List.getD_eq_getElem?_getD]
/-- a name gets a value that was under way -/
theorem Rel.store {f : List Addr} (r : Rel C pin G F H σ ρ fps (f ++ ex)) {i : Nat} {d : D} {v : V} {md : Md} (hi : i < ρ.length) (hp : ∀ p ∈ pin, p.1 ≠ i)
    (h : SlotR C F H (f ++ ex ++ fps.flatten) md d v f) : Rel C pin (G.set i md) F H (σ.set i (some v)) (ρ.set i (some d)) (fps.set i f) ex := by
  have n1 := List.nodup_append.mp r.nd
  have n2 := List.nodup_append.mp n1.1
  have sub : ∀ a ∈ ex ++ (fps.set i f).flatten, a ∈ f ++ ex ++ fps.flatten := fun a ha => by
    rcases List.mem_append.mp ha with z | z
    · exact List.mem_append_left _ (List.mem_append_right _ z)
    · rcases flatten_set_sub z with z | z
      · exact List.mem_append_left _ (List.mem_append_left _ z)
      · exact List.mem_append_right _ z
  refine ⟨r.sub, r.tups, by simp [r.ls], by simp [r.lf], by simp [r.lg], List.nodup_append.mpr ⟨n2.2.1, nodup_set n1.2.1 n2.1 fun j g _ hj x hx hg => n1.2.2 x (List.mem_append_left _ hx) x (mem_flatten_get hj hg) rfl, fun a ha b hb e => ?_⟩, fun a ha => r.out a (sub a ha), fun a ha => r.live a (sub a ha), fun j d' e => ?_, fun p hpin => ?_⟩
  · subst e
    rcases flatten_set_sub hb with z | z
    · exact n2.2.2 a z a ha rfl
    · exact n1.2.2 a (List.mem_append_right _ ha) a z rfl
  · by_cases hj : j = i
    · subst hj
      rw [List.getElem?_set_self hi] at e
      cases e
      refine ⟨v, f, by rw [List.getElem?_set_self (by rw [r.ls]; exact hi)], by rw [List.getElem?_set_self (by rw [r.lf]; exact hi)], ?_⟩
      rw [getD_set_self (by rw [r.lg]; exact hi)]
      exact h.less fun a ha _ => sub a ha
    · rw [List.getElem?_set_ne (Ne.symm hj)] at e
      obtain ⟨v', fp', e1, e2, h'⟩ := r.slot j d' e
      refine ⟨v', fp', by rw [List.getElem?_set_ne (Ne.symm hj)]; exact e1, by rw [List.getElem?_set_ne (Ne.symm hj)]; exact e2, ?_⟩
      rw [getD_set_ne hj]
      exact h'.less fun a ha _ => sub a ha
  · rw [List.getElem?_set_ne (Ne.symm (hp p hpin))]
    exact r.pn p hpin
/-- an owned thing is changed in place: at the addresses g, of its own f -/
theorem Rel.change {i : Nat} {f f' : List Addr} {k : Nat} {d' : D} {v : V} (r : Rel C pin G F H σ ρ fps ex) (hi : fps[i]? = some f) (hm : G.getD i .fz = .ow k) (hv : σ[i]? = some (some v))
    (keep : ∀ a o, H a = some o → a ∉ f → H' a = some o) (hf : ∀ a ∈ f', a ∈ f ∨ H a = none) (nf : f'.Nodup) (liv : ∀ a ∈ f', ∃ o, H' a = some o)
    (tp : ∀ a xs, H' a = some (.tup xs) → F a = some (.tup xs)) (own : Own C F H' (k + 1) d' v f') : Rel C pin G F H' σ (ρ.set i (some d')) (fps.set i f') ex := by
  have n1 := List.nodup_append.mp r.nd
  have hil : i < ρ.length := by rw [← r.lf]; exact (List.getElem?_eq_some_iff.mp hi).1
  have hU : ∀ a ∈ f, a ∈ ex ++ fps.flatten := fun a ha => List.mem_append_right _ (mem_flatten_get hi ha)
  have notf : ∀ a, (∃ o, H a = some o) → a ∉ f → a ∉ f' := fun a ⟨o, e⟩ n z => by
    rcases hf a z with q | q
    · exact n q
    · rw [q] at e; cases e
  have exf : ∀ a ∈ ex, a ∉ f := fun a ha z => n1.2.2 a ha a (mem_flatten_get hi z) rfl
  have sub : ∀ a ∈ ex ++ (fps.set i f').flatten, a ∈ ex ++ fps.flatten ∨ H a = none := fun a ha => by
    rcases List.mem_append.mp ha with z | z
    · exact .inl (List.mem_append_left _ z)
    · rcases flatten_set_sub z with z | z
      · rcases hf a z with q | q
        · exact .inl (hU a q)
        · exact .inr q
      · exact .inl (List.mem_append_right _ z)
  refine ⟨fun a u e => keep a u (r.sub a u e) fun z => ?_, tp, by simp [r.ls], by simp [r.lf], by simp [r.lg], List.nodup_append.mpr ⟨n1.1, nodup_set n1.2.1 nf fun j g hj hg x hx hxg => ?_, fun a ha b hb e => ?_⟩, fun a ha => ?_, fun a ha => ?_, fun j d e => ?_, fun p hp => r.pn p hp⟩
  · have q := r.out a (hU a z)
    rw [e] at q; cases q
  · rcases hf x hx with q | q
    · exact apart_parts n1.2.1 hj hg hi hxg q
    · obtain ⟨o, e⟩ := r.live x (List.mem_append_right _ (mem_flatten_get hg hxg))
      rw [q] at e; cases e
  · subst e
    rcases flatten_set_sub hb with z | z
    · exact notf a (r.live a (List.mem_append_left _ ha)) (exf a ha) z
    · exact n1.2.2 a ha a z rfl
  · rcases sub a ha with z | z
    · exact r.out a z
    · exact r.sub.non z
  · by_cases hff : a ∈ f'
    · exact liv a hff
    · have ha' : a ∈ ex ++ fps.flatten ∧ a ∉ f := by
        rcases List.mem_append.mp ha with z | z
        · exact ⟨List.mem_append_left _ z, exf a z⟩
        · obtain ⟨g, hg, hag⟩ := List.mem_flatten.mp z
          obtain ⟨j, hj⟩ := List.getElem?_of_mem hg
          by_cases hji : j = i
          · subst hji
            rw [List.getElem?_set_self (by rw [r.lf]; exact hil)] at hj
            cases hj
            exact absurd hag hff
          · rw [List.getElem?_set_ne (Ne.symm hji)] at hj
            exact ⟨List.mem_append_right _ (mem_flatten_get hj hag), fun z => apart_parts n1.2.1 hji hj hi hag z⟩
      obtain ⟨o, e⟩ := r.live a ha'.1
      exact ⟨o, keep a o e ha'.2⟩
  · by_cases hj : j = i
    · subst hj
      rw [List.getElem?_set_self hil] at e
      cases e
      refine ⟨v, f', hv, by rw [List.getElem?_set_self (by rw [r.lf]; exact hil)], ?_⟩
      rw [hm]; exact own
    · rw [List.getElem?_set_ne (Ne.symm hj)] at e
      obtain ⟨v', fp', e1, e2, h'⟩ := r.slot j d e
      refine ⟨v', fp', e1, by rw [List.getElem?_set_ne (Ne.symm hj)]; exact e2, ?_⟩
      exact h'.go (Sub.refl F) (fun a ha o e => keep a o e fun z => apart_parts n1.2.1 hj e2 hi ha z) (fun a o e n => keep a o e fun z => n (hU a z)) fun a ha ⟨o, e⟩ => by
        rcases sub a ha with z | z
        · exact z
        · rw [z] at e; cases e
/-- the same heap after a call: all but U stay, U and F as told -/
theorem Rel.weak_ex (r : Rel C pin G F H σ ρ fps ex) : Rel C pin G F H σ ρ fps [] := r.less (fun a ha => nomatch ha) List.nodup_nil
end
end DM
end
section
set_option autoImplicit false
set_option Elab.async false
set_option linter.all false
set_option maxRecDepth 100000
set_option maxHeartbeats 4000000
/-! DM3: results, readings by data, names, constants, operations. -/
namespace DM
open PySem PySem.Spec PyProof.Rows L2

/-- what a run gives: a value, an error of an own class, or nothing that we speak of -/
inductive R (α : Type) where
  | ok (a : α) (ρ : DEnv) | ex (c : String) (ns : List Str) (vs : List D) (ρ : DEnv) | bad
abbrev M (α : Type) := DEnv → R α
def bindM {α β : Type} (f : M α) (g : α → M β) : M β := fun ρ => match f ρ with
  | .ok a ρ1 => g a ρ1
  | .ex c ns vs ρ1 => .ex c ns vs ρ1
  | .bad => .bad
def retM {α : Type} (a : α) : M α := fun ρ => .ok a ρ

structure Ct where
  X : Cx
  C : Cl
  pin : List (Nat × V)
  gx : List Md
  W : WX
structure Ct.Ok (T : Ct) : Prop where
  hK : T.C.K = T.X.K
  calm : T.X.calm = true
  nd : T.X.N.Nodup
  tk : Takes T.X T.W
  un : T.X.A.units + 80 < cLine
  gd : T.X.A.guards = some []

/-- how an error lies -/
def ExR (C : Cl) (F H : Hp) (c : String) (ns : List Str) (vs : List D) (cls : Value) (dx : Option Addr) : Prop :=
  ∃ A, C.cl c = some A ∧ cls = .ref A ∧ ((ns = [] ∧ vs = [] ∧ dx = none) ∨ ∃ a xs, dx = some a ∧ F a = some (.xd (ns.zip xs)) ∧ RepL C F vs xs ∧ ns.length = vs.length)
def Exc (T : Ct) (F H : Hp) (U : List Addr) (σ : Sl) (c : String) (ns : List Str) (vs : List D) (ρ : DEnv) : Prop :=
  ∀ cls dx F' H' fps', Ext F H U F' H' fps'.flatten → Rel T.C T.pin T.gx F' H' σ ρ fps' [] → ExR T.C F' H' c ns vs cls dx → T.W cls dx σ H'
abbrev RRel (α β : Type) := α → Sl → Hp → Hp → List Addr → β → List Addr → Prop
/-- what is left to be shown behind; U: the addresses that are ours -/
def RemU {α β : Type} (T : Ct) (G' : List Md) (rr : RRel α β) (r : R α) (F H : Hp) (U : List Addr) (ex : List Addr) (σ : Sl) (Q : β → Hp → Prop) : Prop :=
  match r with
  | .ok a ρ' => ∀ v F' H' fps' fp, Ext F H U F' H' (fp ++ fps'.flatten) → Rel T.C T.pin G' F' H' σ ρ' fps' (fp ++ ex) → rr a σ F' H' fps'.flatten v fp → Q v H'
  | .ex c ns vs ρ' => Exc T F H U σ c ns vs ρ'
  | .bad => False
abbrev Rem {α β : Type} (T : Ct) (G' : List Md) (rr : RRel α β) (r : R α) (F H : Hp) (fps : List (List Addr)) (ex : List Addr) (σ : Sl) (Q : β → Hp → Prop) : Prop := RemU T G' rr r F H fps.flatten ex σ Q
def tG {α β : Type} (T : Ct) (G G' : List Md) (rr : RRel α β) (f : M α) : Sl → Hp → (β → Hp → Prop) → Prop := fun σ H Q =>
  ∃ F ρ fps ex, Rel T.C T.pin G F H σ ρ fps ex ∧ Rem T G' rr (f ρ) F H fps ex σ Q

section
variable {α β γ δ : Type} {T : Ct} {G G1 G2 G' : List Md} {F F1 F2 F' H H1 H2 H' : Hp} {U U1 U2 U' : List Addr} {σ : Sl} {ρ ρ1 : DEnv} {fps fps1 : List (List Addr)} {ex fp1 : List Addr}
theorem Exc.step {c : String} {ns : List Str} {vs : List D} (h : Exc T F H U σ c ns vs ρ) (e : Ext F H U F1 H1 U1) : Exc T F1 H1 U1 σ c ns vs ρ := fun cls dx F' H' fps' e' r x => h cls dx F' H' fps' (e.trans e') r x
theorem Rem.step {rr : RRel α β} {r : R α} {Q : β → Hp → Prop} (h : Rem T G' rr r F H fps ex σ Q) (e : Ext F H fps.flatten F1 H1 (fp1 ++ fps1.flatten)) : Rem T G' rr r F1 H1 fps1 (fp1 ++ ex) σ Q := by
  have e' : ∀ {F' H' U'}, Ext F1 H1 fps1.flatten F' H' U' → Ext F H fps.flatten F' H' U' := fun k => e.trans (k.more fun x hx => List.mem_append_right _ hx)
  cases r with
  | ok a ρ' =>
    intro v F' H' fps' fp k r q
    refine h v F' H' fps' fp (e' k) (r.less (fun a ha => ?_) ?_) q
    · rcases List.mem_append.mp ha with z | z
      · exact List.mem_append_left _ z
      · exact List.mem_append_right _ (List.mem_append_right _ z)
    · have n := (List.nodup_append.mp r.nd).1
      have n1 := List.nodup_append.mp n
      exact List.nodup_append.mpr ⟨n1.1, (List.nodup_append.mp n1.2.1).2.1, fun a ha b hb => n1.2.2 a ha b (List.mem_append_right _ hb)⟩
  | ex c ns vs ρ' =>
    intro cls dx F' H' fps' k r x
    exact h cls dx F' H' fps' (e' k) r x
  | bad => exact h
/-- one run behind another -/
theorem tG.seq {rr1 : RRel α β} {rr3 : RRel γ δ} {f : M α} {g : α → M γ} {Q : δ → Hp → Prop} {K : β → Hp → Prop} (h : tG T G G2 rr3 (bindM f g) σ H Q)
    (k : ∀ a x F1 H1 ρ1 fps1 fp1 ex, Rel T.C T.pin G1 F1 H1 σ ρ1 fps1 (fp1 ++ ex) → rr1 a σ F1 H1 fps1.flatten x fp1 → Rem T G2 rr3 (g a ρ1) F1 H1 fps1 (fp1 ++ ex) σ Q → K x H1) : tG T G G1 rr1 f σ H K := by
  obtain ⟨F, ρ, fps, ex, r, m⟩ := h
  refine ⟨F, ρ, fps, ex, r, ?_⟩
  unfold bindM at m
  cases q : f ρ with
  | ok a ρ1 =>
    rw [q] at m
    intro v F' H' fps' fp e r' z
    exact k a v F' H' ρ1 fps' fp ex r' z (Rem.step m e)
  | ex c ns vs ρ1 =>
    rw [q] at m
    exact m
  | bad => rw [q] at m; exact m
/-- the end: a value is at hand -/
theorem Rem.fin {rr : RRel α β} {a : α} {Q : β → Hp → Prop} {v : β} {fp : List Addr} (m : Rem T G' rr (.ok a ρ) F H fps ex σ Q) (e : Ext F H fps.flatten F' H' (fp ++ fps1.flatten)) (r : Rel T.C T.pin G' F' H' σ ρ fps1 (fp ++ ex)) (z : rr a σ F' H' fps1.flatten v fp) : Q v H' := m v F' H' fps1 fp e r z
end

theorem PEimp {X : Cx} {e : Expr} {t t' : TE} (h : PE X e t) (w : ∀ σ H Q, t' σ H Q → t σ H Q) : PE X e t' := ⟨fun pins s σ H Q I q => h.run pins s σ H Q I (w σ H Q q)⟩
theorem PTimp {X : Cx} {e : Expr} {t t' : TT} (h : PT X e t) (w : ∀ σ H Q, t' σ H Q → t σ H Q) : PT X e t' := ⟨fun pins s σ H Q I q => h.run pins s σ H Q I (w σ H Q q)⟩
theorem PWimp {X : Cx} {e : Expr} {t t' : TT} (h : PW X e t) (w : ∀ σ H Q, t' σ H Q → t σ H Q) : PW X e t' := ⟨fun wh pins s σ H Q I q => h.run wh pins s σ H Q I (w σ H Q q)⟩
theorem PAimp {X : Cx} {es : List Expr} {t t' : TA} (h : PA X es t) (w : ∀ σ H Q, t' σ H Q → t σ H Q) : PA X es t' := ⟨fun p pins s σ H Q I q => h.run p pins s σ H Q I (w σ H Q q)⟩
theorem PSimp {X : Cx} {st : Stmt} {t t' : TS} (h : PS X st t) (w : ∀ D σ H, t' D σ H → t D σ H) : PS X st t' := ⟨fun pins s σ H D I q => h.run pins s σ H D I (w D σ H q)⟩
theorem PSsimp {X : Cx} {st : List Stmt} {t t' : TS} (h : PSs X st t) (w : ∀ D σ H, t' D σ H → t D σ H) : PSs X st t' := ⟨fun pins s σ H D I q => h.run pins s σ H D I (w D σ H q)⟩

/-! ### the judgements on expressions -/
/-- an operand: a frozen value, or a name that is read when the operation is done -/
inductive Opn where
  | val (d : D) | bor (i : Nat)
def resO (ρ : DEnv) : Opn → Option D
  | .val d => some d
  | .bor i => (ρ[i]?).join
def rV (C : Cl) : RRel D V := fun d _ F _ _ v fp => fp = [] ∧ Rep C F d v
def rF (C : Cl) (k : Nat) : RRel D V := fun d _ F H _ v fp => Own C F H (k + 1) d v fp
def OpdV (C : Cl) (F : Hp) (σ : Sl) (B : Option Nat) : Opn → V → Prop
  | .val d, v => B = none ∧ Rep C F d v
  | .bor i, v => B = some i ∧ σ[i]? = some (some v)
def rO (C : Cl) (B : Option Nat) : RRel Opn V := fun o σ F _ _ v fp => fp = [] ∧ OpdV C F σ B o v
def rB : RRel Bool Bool := fun a _ _ _ _ b fp => fp = [] ∧ a = b
/-- may the borrowed name be read (not owned deeper than its members)? -/
def okB (G : List Md) : Option Nat → Bool
  | none => true
  | some i => match G.getD i .fz with
    | .ow (_ + 1) => false
    | _ => true
/-- frozen value; fresh value; operand; test -/
def SV (T : Ct) (G : List Md) (e : Expr) (G' : List Md) (f : M D) : Prop := PE T.X e (tG T G G' (rV T.C) f)
def SF (T : Ct) (G : List Md) (e : Expr) (k : Nat) (G' : List Md) (f : M D) : Prop := PE T.X e (tG T G G' (rF T.C k) f)
def SO (T : Ct) (G : List Md) (e : Expr) (B : Option Nat) (G' : List Md) (f : M Opn) : Prop := PE T.X e (tG T G G' (rO T.C B) f)
def ST (T : Ct) (G : List Md) (e : Expr) (G' : List Md) (f : M Bool) : Prop := PT T.X e (tG T G G' rB f)

def oVal (f : M D) : M Opn := bindM f fun d => retM (.val d)
def eV (i : Nat) : M D := fun ρ => match (ρ[i]?).join with
  | some d => .ok d ρ
  | none => .bad
def oB (i : Nat) : M Opn := fun ρ => match (ρ[i]?).join with
  | some _ => .ok (.bor i) ρ
  | none => .bad
def eC (d : D) : M D := retM d

section
variable {T : Ct} {G G1 G2 G' : List Md} {e a b : Expr} {pos : Pos}
theorem join_some {ρ : DEnv} {i : Nat} {d : D} (h : (ρ[i]?).join = some d) : ρ[i]? = some (some d) := by
  cases q : ρ[i]? with
  | none => rw [q] at h; cases h
  | some o => rw [q] at h; simp at h; rw [h]
/-- a fresh value is frozen -/
def frz (F H : Hp) (S : List Addr) : Hp := fun a => if a ∈ S then H a else F a
theorem frz_in {F H : Hp} {S : List Addr} {a : Addr} (h : a ∈ S) : frz F H S a = H a := by unfold frz; rw [if_pos h]
theorem frz_out {F H : Hp} {S : List Addr} {a : Addr} (h : a ∉ S) : frz F H S a = F a := by unfold frz; rw [if_neg h]
theorem Rel.frzEx {C : Cl} {pin : List (Nat × V)} {F H : Hp} {σ : Sl} {ρ : DEnv} {fps : List (List Addr)} {f ex : List Addr} (r : Rel C pin G F H σ ρ fps (f ++ ex)) :
    Ext F H (f ++ fps.flatten) (frz F H f) H fps.flatten ∧ Rel C pin G (frz F H f) H σ ρ fps ex ∧ Sub F (frz F H f) := by
  have out : ∀ a ∈ f, F a = none := fun a ha => r.out a (List.mem_append_left _ (List.mem_append_left _ ha))
  have s : Sub F (frz F H f) := fun a o e => by
    by_cases h : a ∈ f
    · rw [out a h] at e; cases e
    · rw [frz_out h]; exact e
  have s' : Sub (frz F H f) H := fun a o e => by
    by_cases h : a ∈ f
    · rw [frz_in h] at e; exact e
    · rw [frz_out h] at e; exact r.sub a o e
  refine ⟨⟨s, fun a o e _ => e, fun a o e => ?_, fun a ha => .inl (List.mem_append_right _ ha)⟩, (r.drop).grow s s' (fun _ _ e => e) (fun a ha => ?_) fun a xs e => s a _ (r.tups a xs e), s⟩
  · by_cases h : a ∈ f
    · exact .inr (.inl (List.mem_append_left _ h))
    · rw [frz_out h] at e; exact .inl e
  · have n1 := List.nodup_append.mp r.nd
    have n2 := List.nodup_append.mp n1.1
    have nf : a ∉ f := fun z => by
      rcases List.mem_append.mp ha with q | q
      · exact n2.2.2 a z a q rfl
      · exact n1.2.2 a (List.mem_append_left _ z) a q rfl
    rw [frz_out nf]
    exact (r.drop).out a ha
theorem sv_of {k : Nat} {f : M D} (h : SF T G e k G' f) : SV T G e G' f := PEimp h fun σ H Q ⟨F, ρ, fps, ex, r, m⟩ => by
  refine ⟨F, ρ, fps, ex, r, ?_⟩
  cases q : f ρ with
  | ok d ρ1 =>
    rw [q] at m
    intro v F' H' fps' fp e' r' z
    obtain ⟨x, r2, s⟩ := r'.frzEx
    exact m v (frz F' H' fp) H' fps' [] (e'.trans x) r2 ⟨rfl, Own.rep s _ d v fp (fun a ha o e => by rw [frz_in ha]; exact e) z⟩
  | ex c ns vs ρ1 => rw [q] at m; exact m
  | bad => rw [q] at m; exact m
theorem so_of {f : M D} (h : SV T G e G' f) : SO T G e none G' (oVal f) := PEimp h fun σ H Q w => by
  refine tG.seq (G1 := G') (rr1 := rV T.C) w fun d x F1 H1 ρ1 fps1 fp1 ex r z m => ?_
  obtain ⟨rfl, z⟩ := z
  exact Rem.fin (fp := []) m (Ext.refl _ _ _) r ⟨rfl, rfl, z⟩
theorem sv_var {i : Nat} {x : Str} (hN : T.X.N[i]? = some x) (hv : Vis T.X.env.scope x) (hm : G.getD i .fz = .fz) (hd : (x == ("__debug__" : Str)) = false := by decide) (hcd : (x == ("__classdict__" : Str)) = false := by decide) :
    SV T G (.Name x pos) G (eV i) := PEimp (pe_var hN hv hd hcd) fun σ H Q ⟨F, ρ, fps, ex, r, m⟩ => by
  unfold eV at m
  cases q : (ρ[i]?).join with
  | none => rw [q] at m; exact m.elim
  | some d =>
    rw [q] at m
    obtain ⟨v, e1, z⟩ := r.fzv (join_some q) hm
    exact ⟨v, e1, Rem.fin (fp := []) m (Ext.refl _ _ _) r ⟨rfl, z⟩⟩
theorem so_var {i : Nat} {x : Str} (hN : T.X.N[i]? = some x) (hv : Vis T.X.env.scope x) (hd : (x == ("__debug__" : Str)) = false := by decide) (hcd : (x == ("__classdict__" : Str)) = false := by decide) :
    SO T G (.Name x pos) (some i) G (oB i) := PEimp (pe_var hN hv hd hcd) fun σ H Q ⟨F, ρ, fps, ex, r, m⟩ => by
  unfold oB at m
  cases q : (ρ[i]?).join with
  | none => rw [q] at m; exact m.elim
  | some d =>
    rw [q] at m
    obtain ⟨v, e1, z⟩ := r.rdH (join_some q)
    exact ⟨v, e1, Rem.fin (fp := []) m (Ext.refl _ _ _) r ⟨rfl, rfl, e1⟩⟩
theorem sv_int {i : Int} {j : Nat} : SV T G (.Constant (.int i) j pos) G (eC (.int i)) := PEimp pe_int fun σ H Q ⟨F, ρ, fps, ex, r, m⟩ => Rem.fin (fp := []) m (Ext.refl _ _ _) r ⟨rfl, by unfold Rep; rfl⟩
end
end DM
end
section
set_option autoImplicit false
set_option Elab.async false
set_option linter.all false
set_option maxRecDepth 100000
set_option maxHeartbeats 4000000
/-! DM4: operations by values, arguments, displays. -/
namespace DM
open PySem PySem.Spec PyProof.Rows L2

section
variable {α β γ δ : Type} {T : Ct} {G G1 G2 G3 G' : List Md} {F F1 F2 F' H H1 H2 H' : Hp} {U U1 U2 U' : List Addr} {σ : Sl} {ρ ρ1 : DEnv} {fps fps1 : List (List Addr)} {ex fp1 : List Addr}
theorem seqR {rr1 : RRel α β} {rr3 : RRel γ δ} {f : M α} {g : α → M γ} {Q : δ → Hp → Prop} {K : β → Hp → Prop} (r : Rel T.C T.pin G F H σ ρ fps ex) (m : Rem T G2 rr3 (bindM f g ρ) F H fps ex σ Q)
    (k : ∀ a x F1 H1 ρ1 fps1 fp1, Ext F H fps.flatten F1 H1 (fp1 ++ fps1.flatten) → Rel T.C T.pin G1 F1 H1 σ ρ1 fps1 (fp1 ++ ex) → rr1 a σ F1 H1 fps1.flatten x fp1 → Rem T G2 rr3 (g a ρ1) F1 H1 fps1 (fp1 ++ ex) σ Q → K x H1) : tG T G G1 rr1 f σ H K := by
  refine ⟨F, ρ, fps, ex, r, ?_⟩
  unfold bindM at m
  cases q : f ρ with
  | ok a ρ1 =>
    rw [q] at m
    intro v F' H' fps' fp e r' z
    exact k a v F' H' ρ1 fps' fp e r' z (Rem.step m e)
  | ex c ns vs ρ1 =>
    rw [q] at m
    exact m
  | bad => rw [q] at m; exact m

theorem RemU.step {rr : RRel α β} {r : R α} {Q : β → Hp → Prop} (h : RemU T G' rr r F H U ex σ Q) (e : Ext F H U F1 H1 U1) : RemU T G' rr r F1 H1 U1 ex σ Q := by
  cases r with
  | ok a ρ' => exact fun v F' H' fps' fp k => h v F' H' fps' fp (e.trans k)
  | ex c ns vs ρ' => exact fun cls dx F' H' fps' k => h cls dx F' H' fps' (e.trans k)
  | bad => exact h
/-- one run behind another; what is under way (ex' over ex) may be handed on at the end -/
theorem seqU {rr1 : RRel α β} {rr3 : RRel γ δ} {f : M α} {g : α → M γ} {Q : δ → Hp → Prop} {K : β → Hp → Prop} {ex' : List Addr} (r : Rel T.C T.pin G F H σ ρ fps ex') (m : RemU T G2 rr3 (bindM f g ρ) F H U ex σ Q) (hU : ∀ a ∈ fps.flatten, a ∈ U)
    (k : ∀ a x F1 H1 ρ1 fps1 fp1, Ext F H fps.flatten F1 H1 (fp1 ++ fps1.flatten) → Rel T.C T.pin G1 F1 H1 σ ρ1 fps1 (fp1 ++ ex') → rr1 a σ F1 H1 fps1.flatten x fp1 → RemU T G2 rr3 (g a ρ1) F1 H1 ((fp1 ++ fps1.flatten) ++ U) ex σ Q → K x H1) : tG T G G1 rr1 f σ H K := by
  refine ⟨F, ρ, fps, ex', r, ?_⟩
  unfold bindM at m
  cases q : f ρ with
  | ok a ρ1 =>
    rw [q] at m
    intro v F' H' fps' fp e r' z
    refine k a v F' H' ρ1 fps' fp e r' z (m.step ?_)
    have e' := e.more hU
    exact ⟨e'.e1, e'.e2, e'.e3, fun a ha => (List.mem_append.mp ha).elim (fun z => e'.e4 a z) .inl⟩
  | ex c ns vs ρ1 =>
    rw [q] at m
    exact fun cls dx F' H' fps' k => m cls dx F' H' fps' (k.more hU)
  | bad => rw [q] at m; exact m
theorem RemU.fin {rr : RRel α β} {a : α} {Q : β → Hp → Prop} {v : β} {fp : List Addr} (m : RemU T G' rr (.ok a ρ) F H U ex σ Q) (hU : ∀ a ∈ fp ++ fps.flatten, a ∈ U) (r : Rel T.C T.pin G' F H σ ρ fps (fp ++ ex)) (z : rr a σ F H fps.flatten v fp) : Q v H :=
  m v F H fps fp ((Ext.refl F H U).less hU) r z

/-- a result: nothing new, or one new object (a tuple is frozen at once) -/
def NewOk (C : Cl) (F H : Hp) (d : D) (v : V) (F' H' : Hp) (fp : List Addr) : Prop :=
  Own C F' H' 1 d v fp ∧ ((F' = F ∧ H' = H ∧ fp = []) ∨ (∃ p o, H p = none ∧ (∀ xs, o ≠ .tup xs) ∧ F' = F ∧ H' = upd H p o ∧ fp = [p]) ∨ ∃ p xs, H p = none ∧ F' = upd F p (.tup xs) ∧ H' = upd H p (.tup xs) ∧ fp = [])
theorem NewOk.go {C : Cl} {pin : List (Nat × V)} {d : D} {v : V} {fp : List Addr} (n : NewOk C F H d v F' H' fp) (r : Rel C pin G F H σ ρ fps ex) :
    Ext F H fps.flatten F' H' (fp ++ fps.flatten) ∧ Rel C pin G F' H' σ ρ fps (fp ++ ex) := by
  obtain ⟨o, ⟨rfl, rfl, rfl⟩ | ⟨p, u, h, nt, rfl, rfl, rfl⟩ | ⟨p, xs, h, rfl, rfl, rfl⟩⟩ := n
  · exact ⟨Ext.refl _ _ _, r⟩
  · exact ⟨Ext.new h, r.new h nt⟩
  · exact ⟨Ext.newF r.sub h, r.newF h⟩
/-- a plain value is no object of anybody's -/
def plain : D → Bool
  | .non => true | .bl _ => true | .int _ => true | .str _ => true | .tup _ => true
  | _ => false
theorem NewOk.plain {C : Cl} {d : D} {v : V} (hp : plain d = true) (h : Rep C F d v) : NewOk C F H d v F H [] := by
  refine ⟨?_, .inl ⟨rfl, rfl, rfl⟩⟩
  cases d with
  | non => exact ⟨rfl, h⟩
  | bl b => exact ⟨rfl, h⟩
  | int b => exact ⟨rfl, h⟩
  | str b => exact ⟨rfl, h⟩
  | tup ds =>
    unfold Rep at h
    obtain ⟨a, xs, e, h1, h2, h3⟩ := h
    exact ⟨a, xs, e, h1, OwnL.of_rep h2, h3⟩
  | lst ds => cases hp
  | dic ks vs => cases hp
  | dct ks vs => cases hp
  | obj c ns vs => cases hp
  | scr ns => cases hp
  | rng i j => cases hp
  | tpx l => cases hp
theorem NewOk.lst {C : Cl} {ds : List D} {xs : List V} {p : Addr} (h : H p = none) (hr : RepL C F ds xs) (hz : ds.length ≤ sizeLine) : NewOk C F H (.lst ds) (.ref p) F (upd H p (.lst xs)) [p] :=
  ⟨⟨p, xs, [], rfl, rfl, upd_same, OwnL.of_rep hr, hz⟩, .inr (.inl ⟨p, _, h, (fun _ e => by cases e), rfl, rfl, rfl⟩)⟩
theorem NewOk.tup {C : Cl} {ds : List D} {xs : List V} {p : Addr} (s : Sub F H) (h : H p = none) (hr : RepL C F ds xs) (hz : ds.length ≤ sizeLine) : NewOk C F H (.tup ds) (.ref p) (upd F p (.tup xs)) (upd H p (.tup xs)) [] :=
  ⟨⟨p, xs, rfl, upd_same, OwnL.of_rep (RepL.mono (Sub.upd (s.non h)) _ _ hr), hz⟩, .inr (.inr ⟨p, _, h, rfl, rfl, rfl⟩)⟩
/-- a new tuple whose object is known -/
theorem NewOk.tpx {C : Cl} {ds : List D} {xs : List V} {p : Addr} {ob : Obj} (s : Sub F H) (h : H p = none) (k : ob.cls = .type "tuple" ∧ ob.dict = none) (hr : RepL C F ds xs) (hz : ds.length ≤ sizeLine) : Rep C (upd F p (.frz ob (.tup xs))) (.tpx ds) (.ref p) := by
  unfold Rep
  exact ⟨p, ob, xs, rfl, upd_same, k, RepL.mono (Sub.upd (s.non h)) _ _ hr, hz⟩
theorem NewOk.dic {C : Cl} {ks : List Key} {ds : List D} {xs : List V} {p : Addr} (h : H p = none) (hr : RepL C F ds xs) (hk : ks.length = ds.length) (hz : ds.length ≤ sizeLine) : NewOk C F H (.dic ks ds) (.ref p) F (upd H p (.dK (ks.zip xs))) [p] :=
  ⟨⟨p, xs, [], rfl, rfl, upd_same, OwnL.of_rep hr, hk, hz⟩, .inr (.inl ⟨p, _, h, (fun _ e => by cases e), rfl, rfl, rfl⟩)⟩

/-! ### two operands -/
def op2 (opD : D → D → Option D) (o1 o2 : Opn) : M D := fun ρ => match resO ρ o1, resO ρ o2 with
  | some a, some b => (match opD a b with
    | some d => .ok d ρ
    | none => .bad)
  | _, _ => .bad
def eBin (opD : D → D → Option D) (m1 m2 : M Opn) : M D := bindM m1 fun o1 => bindM m2 fun o2 => op2 opD o1 o2
/-- an operation by values: what it asks is shown from the data -/
def Prim2 (C : Cl) (r : R2) (opD : D → D → Option D) : Prop := ∀ (F H : Hp) (d1 d2 d : D) (x y : V) (Q : VK), Sub F H → Opd C F H d1 x → Opd C F H d2 y → opD d1 d2 = some d → (∀ v F' H' fp, NewOk C F H d v F' H' fp → Q v H') → r x y H Q
theorem opd_of {C : Cl} {pin : List (Nat × V)} {B : Option Nat} {o : Opn} {v : V} {d : D} (r : Rel C pin G F H σ ρ fps ex) (h : OpdV C F σ B o v) (e : resO ρ o = some d) (k : okB G B = true) : Opd C F H d v := by
  cases o with
  | val d' => cases e; exact .inl h.2
  | bor i =>
    obtain ⟨rfl, h⟩ := h
    obtain ⟨v', e1, z⟩ := r.opd (join_some e) (fun n q => by unfold okB at k; simp only [q] at k; cases k)
    rw [h] at e1; cases e1
    exact z
theorem OpdV.mono {C : Cl} {B : Option Nat} {o : Opn} {v : V} (s : Sub F F') (h : OpdV C F σ B o v) : OpdV C F' σ B o v := by
  cases o with
  | val d => exact ⟨h.1, Rep.mono s d v h.2⟩
  | bor i => exact h
theorem sf_op2 {e : Expr} {r : R2} {opD : D → D → Option D} {Ba Bb : Option Nat} {m1 m2 : M Opn} (pr : Prim2 T.C r opD)
    (h : PE T.X e (tOp r (tG T G G1 (rO T.C Ba) m1) (tG T G1 G2 (rO T.C Bb) m2))) (ka : okB G2 Ba = true := by rfl) (kb : okB G2 Bb = true := by rfl) : SF T G e 0 G2 (eBin opD m1 m2) := PEimp h fun σ H Q w => by
  obtain ⟨F, ρ, fps, ex, r0, m0⟩ := w
  refine seqR r0 m0 fun o1 x F1 H1 ρ1 fps1 fp1 e1 r1 z1 m1 => ?_
  obtain ⟨rfl, z1⟩ := z1
  refine seqR r1 m1 fun o2 y F2 H2 ρ2 fps2 fp2 e2 r2 z2 m2 => ?_
  obtain ⟨rfl, z2⟩ := z2
  unfold op2 at m2
  cases q1 : resO ρ2 o1 with
  | none => rw [q1] at m2; exact m2.elim
  | some d1 =>
    cases q2 : resO ρ2 o2 with
    | none => rw [q1, q2] at m2; exact m2.elim
    | some d2 =>
      rw [q1, q2] at m2
      dsimp only at m2
      cases q3 : opD d1 d2 with
      | none => rw [q3] at m2; exact m2.elim
      | some d =>
        rw [q3] at m2
        refine pr F2 H2 d1 d2 d x y Q r2.sub (opd_of r2 (z1.mono e2.e1) q1 ka) (opd_of r2 z2 q2 kb) q3 fun v F' H' fp n => ?_
        obtain ⟨x1, x2⟩ := n.go r2
        exact Rem.fin m2 x1 x2 n.1
theorem sf_bin {op : Operator} {a b : Expr} {pos : Pos} {r : R2} {opD : D → D → Option D} {Ba Bb : Option Nat} {m1 m2 : M Opn} (ho : OpR T.X (binaryOp op) r) (pr : Prim2 T.C r opD)
    (ha : SO T G a Ba G1 m1) (hb : SO T G1 b Bb G2 m2) (ka : okB G2 Ba = true := by rfl) (kb : okB G2 Bb = true := by rfl) : SF T G (.BinOp a op b pos) 0 G2 (eBin opD m1 m2) := sf_op2 pr (pe_op ho ha hb) ka kb
theorem sf_cmp {op : CmpOp} {a b : Expr} {pos : Pos} {r : R2} {opD : D → D → Option D} {Ba Bb : Option Nat} {m1 m2 : M Opn} (ho : OpR T.X (compareOp op) r) (pr : Prim2 T.C r opD)
    (ha : SO T G a Ba G1 m1) (hb : SO T G1 b Bb G2 m2) (hm : behindInMarks op b = false) (ka : okB G2 Ba = true := by rfl) (kb : okB G2 Bb = true := by rfl) : SF T G (.Compare a [op] [b] pos) 0 G2 (eBin opD m1 m2) := sf_op2 pr (pe_cmpR ho ha hb hm) ka kb
/-! ### one operand -/
def op1 (opD : D → Option D) (o : Opn) : M D := fun ρ => match resO ρ o with
  | some a => (match opD a with
    | some d => .ok d ρ
    | none => .bad)
  | none => .bad
def eUn (opD : D → Option D) (m : M Opn) : M D := bindM m fun o => op1 opD o
def Prim1 (C : Cl) (r : V → Hp → VK → Prop) (opD : D → Option D) : Prop := ∀ (F H : Hp) (d1 d : D) (x : V) (Q : VK), Sub F H → Opd C F H d1 x → opD d1 = some d → (∀ v F' H' fp, NewOk C F H d v F' H' fp → Q v H') → r x H Q
theorem sf_op1 {e : Expr} {r : V → Hp → VK → Prop} {opD : D → Option D} {Ba : Option Nat} {m1 : M Opn} (pr : Prim1 T.C r opD)
    (h : PE T.X e (tUn r (tG T G G1 (rO T.C Ba) m1))) (ka : okB G1 Ba = true := by rfl) : SF T G e 0 G1 (eUn opD m1) := PEimp h fun σ H Q w => by
  obtain ⟨F, ρ, fps, ex, r0, m0⟩ := w
  refine seqR r0 m0 fun o1 x F1 H1 ρ1 fps1 fp1 e1 r1 z1 m1 => ?_
  obtain ⟨rfl, z1⟩ := z1
  unfold op1 at m1
  cases q1 : resO ρ1 o1 with
  | none => rw [q1] at m1; exact m1.elim
  | some d1 =>
    rw [q1] at m1
    dsimp only at m1
    cases q3 : opD d1 with
    | none => rw [q3] at m1; exact m1.elim
    | some d =>
      rw [q3] at m1
      refine pr F1 H1 d1 d x Q r1.sub (opd_of r1 z1 q1 ka) q3 fun v F' H' fp n => ?_
      obtain ⟨x1, x2⟩ := n.go r1
      exact Rem.fin m1 x1 x2 n.1
/-! ### tests -/
def truB (d : D) : Option Bool := match d with
  | .bl b => some b
  | _ => none
def tOf (m : M D) : M Bool := bindM m fun d => fun ρ => match truB d with
  | some b => .ok b ρ
  | none => .bad
theorem st_val {e : Expr} {f : M D} (h : SV T G e G' f) (he : ∀ whole, isTrue e T.X.env whole = (do let v ← whole; standAt e.pos; holding [v] (truthy v)) := by intro _; rfl) : ST T G e G' (tOf f) := PTimp (pt_val h he) fun σ H Q w => by
  obtain ⟨F, ρ, fps, ex, r0, m0⟩ := w
  refine seqR r0 m0 fun d x F1 H1 ρ1 fps1 fp1 e1 r1 z1 m1 => ?_
  obtain ⟨rfl, z1⟩ := z1
  cases d with
  | bl b =>
    have q : x = .bl b := by unfold Rep at z1; exact z1
    exact ⟨b, q, Rem.fin (fp := []) m1 (Ext.refl _ _ _) r1 ⟨rfl, rfl⟩⟩
  | non => exact m1.elim
  | int i => exact m1.elim
  | str i => exact m1.elim
  | tup i => exact m1.elim
  | lst i => exact m1.elim
  | dic i j => exact m1.elim
  | dct i j => exact m1.elim
  | obj i j k => exact m1.elim
  | scr i => exact m1.elim
  | rng i j => exact m1.elim
  | tpx i => exact m1.elim
def mAnd (a b : M Bool) : M Bool := bindM a fun c => if c = true then b else retM false
def mOr (a b : M Bool) : M Bool := bindM a fun c => if c = true then retM true else b
def mNot (a : M Bool) : M Bool := bindM a fun c => retM (!c)
/-- a test whatever its whole is -/
def SW (T : Ct) (G : List Md) (e : Expr) (G' : List Md) (f : M Bool) : Prop := PW T.X e (tG T G G' rB f)
theorem st_of_w {e : Expr} {f : M Bool} (h : SW T G e G' f) : ST T G e G' f := PW.pt h
theorem sw_and1 {a : Expr} {pos : Pos} {f : M Bool} (h : ST T G a G' f) : SW T G (.BoolOp .And [a] pos) G' f := pw_and1 h
theorem sw_or1 {a : Expr} {pos : Pos} {f : M Bool} (h : ST T G a G' f) : SW T G (.BoolOp .Or [a] pos) G' f := pw_or1 h
theorem sw_and {a b : Expr} {rest : List Expr} {pos : Pos} {f g : M Bool} (ha : ST T G a G f) (hb : SW T G (.BoolOp .And (b :: rest) pos) G g) : SW T G (.BoolOp .And (a :: b :: rest) pos) G (mAnd f g) := PWimp (pw_and ha hb) fun σ H Q w => by
  obtain ⟨F, ρ, fps, ex, r0, m0⟩ := w
  refine seqR r0 m0 fun c x F1 H1 ρ1 fps1 fp1 e1 r1 z1 m1 => ?_
  obtain ⟨rfl, rfl⟩ := z1
  cases c with
  | true => exact ⟨F1, ρ1, fps1, _, r1, m1⟩
  | false => exact Rem.fin (fp := []) m1 (Ext.refl _ _ _) r1 ⟨rfl, rfl⟩
theorem sw_or {a b : Expr} {rest : List Expr} {pos : Pos} {f g : M Bool} (ha : ST T G a G f) (hb : SW T G (.BoolOp .Or (b :: rest) pos) G g) : SW T G (.BoolOp .Or (a :: b :: rest) pos) G (mOr f g) := PWimp (pw_or ha hb) fun σ H Q w => by
  obtain ⟨F, ρ, fps, ex, r0, m0⟩ := w
  refine seqR r0 m0 fun c x F1 H1 ρ1 fps1 fp1 e1 r1 z1 m1 => ?_
  obtain ⟨rfl, rfl⟩ := z1
  cases c with
  | false => exact ⟨F1, ρ1, fps1, _, r1, m1⟩
  | true => exact Rem.fin (fp := []) m1 (Ext.refl _ _ _) r1 ⟨rfl, rfl⟩
theorem st_not {a : Expr} {pos : Pos} {f : M Bool} (ha : ST T G a G' f) : ST T G (.UnaryOp .Not a pos) G' (mNot f) := PTimp (pt_not ha) fun σ H Q w => by
  obtain ⟨F, ρ, fps, ex, r0, m0⟩ := w
  refine seqR r0 m0 fun c x F1 H1 ρ1 fps1 fp1 e1 r1 z1 m1 => ?_
  obtain ⟨rfl, rfl⟩ := z1
  exact Rem.fin (fp := []) m1 (Ext.refl _ _ _) r1 ⟨rfl, rfl⟩
end
end DM
end
section
set_option autoImplicit false
set_option Elab.async false
set_option linter.all false
set_option maxRecDepth 100000
set_option maxHeartbeats 4000000
/-! DM5: statements. -/
namespace DM
open PySem PySem.Spec PyProof.Rows L2

inductive Fl where
  | nx | bk | ct | rt (d : D)
/-- modes at break, continue, return; the kind of the result (none: frozen; some k: fresh, owned to k + 1) -/
structure Gs where
  gb : List Md
  gc : List Md
  gr : List Md
  rk : Option Nat
def RetR (C : Cl) (rk : Option Nat) (F H : Hp) (d : D) (v : V) (fp : List Addr) : Prop := match rk with
  | none => fp = [] ∧ Rep C F d v
  | some k => Own C F H (k + 1) d v fp
def RemS (T : Ct) (S : Gs) (G' : List Md) (r : R Fl) (F H : Hp) (U : List Addr) (E : Ends) : Prop := match r with
  | .ok .nx ρ' => ∀ σ' F' H' fps', Ext F H U F' H' fps'.flatten → Rel T.C T.pin G' F' H' σ' ρ' fps' [] → E.nx σ' H'
  | .ok .bk ρ' => ∀ σ' F' H' fps', Ext F H U F' H' fps'.flatten → Rel T.C T.pin S.gb F' H' σ' ρ' fps' [] → E.bk σ' H'
  | .ok .ct ρ' => ∀ σ' F' H' fps', Ext F H U F' H' fps'.flatten → Rel T.C T.pin S.gc F' H' σ' ρ' fps' [] → E.ct σ' H'
  | .ok (.rt d) ρ' => ∀ v σ' F' H' fps' fp, Ext F H U F' H' (fp ++ fps'.flatten) → Rel T.C T.pin S.gr F' H' σ' ρ' fps' fp → RetR T.C S.rk F' H' d v fp → E.rt v H'
  | .ex c ns vs ρ' => ∀ σ', Exc T F H U σ' c ns vs ρ'
  | .bad => False
def tS (T : Ct) (S : Gs) (G G' : List Md) (s : M Fl) : TS := fun E σ H => ∃ F ρ fps, Rel T.C T.pin G F H σ ρ fps [] ∧ RemS T S G' (s ρ) F H fps.flatten E
def SS (T : Ct) (S : Gs) (G : List Md) (st : Stmt) (G' : List Md) (s : M Fl) : Prop := PS T.X st (tS T S G G' s)
def SB (T : Ct) (S : Gs) (G : List Md) (sts : List Stmt) (G' : List Md) (s : M Fl) : Prop := PSs T.X sts (tS T S G G' s)

def sSeq (a b : M Fl) : M Fl := bindM a fun f => match f with
  | .nx => b
  | f => retM f
def sAsg (i : Nat) (m : M D) : M Fl := bindM m fun d => fun ρ => .ok .nx (ρ.set i (some d))
def sExpr (m : M D) : M Fl := bindM m fun _ => retM .nx
def sRet (m : M D) : M Fl := bindM m fun d => retM (.rt d)
def sIf (c : M Bool) (a b : M Fl) : M Fl := bindM c fun x => if x = true then a else b

section
variable {T : Ct} {S : Gs} {G G1 G2 G' : List Md} {F F1 F' H H1 H' : Hp} {U U1 : List Addr} {σ : Sl} {ρ : DEnv} {fps fps1 : List (List Addr)} {E : Ends} {e : Expr} {pos : Pos}
theorem RemS.step {r : R Fl} (h : RemS T S G' r F H U E) (x : Ext F H U F1 H1 U1) : RemS T S G' r F1 H1 U1 E := by
  cases r with
  | ok f ρ' =>
    cases f with
    | nx => exact fun σ' F' H' fps' k => h σ' F' H' fps' (x.trans k)
    | bk => exact fun σ' F' H' fps' k => h σ' F' H' fps' (x.trans k)
    | ct => exact fun σ' F' H' fps' k => h σ' F' H' fps' (x.trans k)
    | rt d => exact fun v σ' F' H' fps' fp k => h v σ' F' H' fps' fp (x.trans k)
  | ex c ns vs ρ' => exact fun σ' => (h σ').step x
  | bad => exact h
theorem sb_nil : SB T S G [] G (retM .nx) := PSsimp pss_nil fun E σ H ⟨F, ρ, fps, r, m⟩ => m σ F H fps (Ext.refl _ _ _) r
theorem sb_cons {st : Stmt} {rest : List Stmt} {a b : M Fl} (ha : SS T S G st G1 a) (hb : SB T S G1 rest G2 b) : SB T S G (st :: rest) G2 (sSeq a b) := PSsimp (pss_cons ha hb) fun E σ H ⟨F, ρ, fps, r, m⟩ => by
  refine ⟨F, ρ, fps, r, ?_⟩
  unfold sSeq bindM at m
  cases q : a ρ with
  | ok f ρ1 =>
    rw [q] at m
    cases f with
    | nx => exact fun σ' F' H' fps' k r' => ⟨F', ρ1, fps', r', RemS.step m k⟩
    | bk => exact m
    | ct => exact m
    | rt d => exact m
  | ex c ns vs ρ1 => rw [q] at m; exact m
  | bad => rw [q] at m; exact m
theorem sb_one {st : Stmt} {a : M Fl} (ha : SS T S G st G1 a) : SB T S G [st] G1 a := pss_one ha
/-- behind an expression within a statement -/
theorem seqS {α β : Type} {rr1 : RRel α β} {f : M α} {g : α → M Fl} {K : β → Hp → Prop} (r : Rel T.C T.pin G F H σ ρ fps []) (m : RemS T S G2 (bindM f g ρ) F H fps.flatten E)
    (k : ∀ a x F1 H1 ρ1 fps1 fp1, Ext F H fps.flatten F1 H1 (fp1 ++ fps1.flatten) → Rel T.C T.pin G1 F1 H1 σ ρ1 fps1 fp1 → rr1 a σ F1 H1 fps1.flatten x fp1 → RemS T S G2 (g a ρ1) F1 H1 (fp1 ++ fps1.flatten) E → K x H1) : tG T G G1 rr1 f σ H K := by
  refine ⟨F, ρ, fps, [], r, ?_⟩
  unfold bindM at m
  cases q : f ρ with
  | ok a ρ1 =>
    rw [q] at m
    intro v F' H' fps' fp e r' z
    rw [List.append_nil] at r'
    exact k a v F' H' ρ1 fps' fp e r' z (m.step e)
  | ex c ns vs ρ1 =>
    rw [q] at m
    exact m σ
  | bad => rw [q] at m; exact m
theorem ss_expr {f : M D} (he : SV T G e G' f) (hs : swapsWith e none pos.line T.X.env = pure false := by rfl) : SS T S G (.Expr e pos) G' (sExpr f) := PSimp (ps_expr he hs) fun E σ H ⟨F, ρ, fps, r, m⟩ => by
  refine seqS r m fun d x F1 H1 ρ1 fps1 fp1 e1 r1 z m1 => ?_
  obtain ⟨rfl, z⟩ := z
  exact m1 σ F1 H1 fps1 (Ext.refl _ _ _) r1
theorem ss_asg {i : Nat} {x : Str} {f : M D} {pos' : Pos} (hN : T.X.N.Nodup) (hi : T.X.N[i]? = some x) (hx : Loc T.X.env.scope x) (hl : T.X.N.length = G'.length) (he : SV T G e G' f) (hp : ∀ p ∈ T.pin, p.1 ≠ i)
    (hs : swapsWith e (some (.Name x pos')) pos.line T.X.env = pure false := by rfl) (hf : T.X.fn x = true ∨ T.X.env.scope.names.lookup x = some .local := by first | exact .inl rfl | exact .inr rfl | assumption) :
    SS T S G (.Assign [.Name x pos'] e pos) (G'.set i .fz) (sAsg i f) := PSimp (ps_set hN hi hx he hs hf) fun E σ H ⟨F, ρ, fps, r, m⟩ => by
  refine seqS r m fun d x F1 H1 ρ1 fps1 fp1 e1 r1 z m1 => ?_
  obtain ⟨rfl, z⟩ := z
  have hil : i < ρ1.length := by rw [← r1.lg, ← hl]; exact (List.getElem?_eq_some_iff.mp hi).1
  exact m1 _ F1 H1 (fps1.set i []) ⟨Sub.refl _, fun _ _ e _ => e, fun _ _ e => .inl e, fun a ha => by
    rcases flatten_set_sub ha with q | q
    · cases q
    · exact .inl q⟩ (r1.store (f := []) (md := .fz) hil hp ⟨rfl, z⟩)
theorem ss_asgF {i k : Nat} {x : Str} {f : M D} {pos' : Pos} (hN : T.X.N.Nodup) (hi : T.X.N[i]? = some x) (hx : Loc T.X.env.scope x) (hl : T.X.N.length = G'.length) (he : SF T G e k G' f) (hp : ∀ p ∈ T.pin, p.1 ≠ i)
    (hs : swapsWith e (some (.Name x pos')) pos.line T.X.env = pure false := by rfl) (hf : T.X.fn x = true ∨ T.X.env.scope.names.lookup x = some .local := by first | exact .inl rfl | exact .inr rfl | assumption) :
    SS T S G (.Assign [.Name x pos'] e pos) (G'.set i (.ow k)) (sAsg i f) := PSimp (ps_set hN hi hx he hs hf) fun E σ H ⟨F, ρ, fps, r, m⟩ => by
  refine seqS r m fun d x F1 H1 ρ1 fps1 fp1 e1 r1 z m1 => ?_
  have hil : i < ρ1.length := by rw [← r1.lg, ← hl]; exact (List.getElem?_eq_some_iff.mp hi).1
  exact m1 _ F1 H1 (fps1.set i fp1) ⟨Sub.refl _, fun _ _ e _ => e, fun _ _ e => .inl e, fun a ha => by
    rcases flatten_set_sub ha with q | q
    · exact .inl (List.mem_append_left _ q)
    · exact .inl (List.mem_append_right _ q)⟩ (Rel.store (ex := []) (f := fp1) (md := .ow k) (by rw [List.append_nil]; exact r1) hil hp z)
theorem ss_ret {f : M D} (hk : S.rk = none) (he : SV T G e S.gr f) : SS T S G (.Return (some e) pos) G' (sRet f) := PSimp (ps_ret he) fun E σ H ⟨F, ρ, fps, r, m⟩ => by
  refine seqS r m fun d x F1 H1 ρ1 fps1 fp1 e1 r1 z m1 => ?_
  obtain ⟨rfl, z⟩ := z
  exact m1 x σ F1 H1 fps1 [] (Ext.refl _ _ _) r1 (by rw [hk]; exact ⟨rfl, z⟩)
theorem ss_retF {k : Nat} {f : M D} (hk : S.rk = some k) (he : SF T G e k S.gr f) : SS T S G (.Return (some e) pos) G' (sRet f) := PSimp (ps_ret he) fun E σ H ⟨F, ρ, fps, r, m⟩ => by
  refine seqS r m fun d x F1 H1 ρ1 fps1 fp1 e1 r1 z m1 => ?_
  exact m1 x σ F1 H1 fps1 fp1 (Ext.refl _ _ _) r1 (by rw [hk]; exact z)
theorem ss_if {c : Expr} {a b : List Stmt} {f : M Bool} {s t : M Fl} (hc : ST T G c G1 f) (ha : SB T S G1 a G' s) (hb : SB T S G1 b G' t) : SS T S G (.If c a b pos) G' (sIf f s t) := PSimp (ps_if hc ha hb) fun E σ H ⟨F, ρ, fps, r, m⟩ => by
  refine seqS r m fun d x F1 H1 ρ1 fps1 fp1 e1 r1 z m1 => ?_
  obtain ⟨rfl, rfl⟩ := z
  cases d with
  | true => exact ⟨F1, ρ1, fps1, r1, m1⟩
  | false => exact ⟨F1, ρ1, fps1, r1, m1⟩
/-! ### what was owned may be forgotten: frozen -/
def leM : Md → Md → Bool
  | .fz, .fz => true
  | .fz, .ow _ => true
  | .ow j, .ow k => j == k
  | .bo, .bo => true
  | .bo, .fz => true
  | _, _ => false
def leG : List Md → List Md → Bool
  | [], [] => true
  | a :: as, b :: bs => leM a b && leG as bs
  | _, _ => false
theorem leG_get : ∀ {A B : List Md}, leG A B = true → A.length = B.length ∧ ∀ i, i < A.length → leM (A.getD i .fz) (B.getD i .fz) = true
  | [], [], _ => ⟨rfl, fun i h => by cases h⟩
  | [], _ :: _, h => by cases h
  | _ :: _, [], h => by cases h
  | a :: as, b :: bs, h => by
    unfold leG at h
    rw [Bool.and_eq_true] at h
    obtain ⟨e, k⟩ := leG_get h.2
    refine ⟨by simp [e], fun i hi => ?_⟩
    cases i with
    | zero => exact h.1
    | succ i => exact k i (by simpa using hi)
/-- the addresses that are frozen: of the names that are frozen now -/
def toFrz : List Md → List (List Addr) → List Addr
  | .fz :: G, f :: fps => f ++ toFrz G fps
  | _ :: G, _ :: fps => toFrz G fps
  | _, _ => []
def restF : List Md → List (List Addr) → List (List Addr)
  | .fz :: G, _ :: fps => [] :: restF G fps
  | _ :: G, f :: fps => f :: restF G fps
  | _, fps => fps
theorem restF_len : ∀ (G : List Md) (fps : List (List Addr)), (restF G fps).length = fps.length
  | .fz :: G, _ :: fps => by simp [restF, restF_len G fps]
  | .bo :: G, _ :: fps => by simp [restF, restF_len G fps]
  | .ow _ :: G, _ :: fps => by simp [restF, restF_len G fps]
  | [], fps => by simp [restF]
  | _ :: _, [] => by simp [restF]
theorem toFrz_mem : ∀ {G : List Md} {fps : List (List Addr)} {x : Addr}, x ∈ toFrz G fps → x ∈ fps.flatten
  | .fz :: G, f :: fps, x, h => by
    rw [List.flatten_cons, List.mem_append]
    rcases List.mem_append.mp (by simpa [toFrz] using h) with z | z
    · exact .inl z
    · exact .inr (toFrz_mem z)
  | .bo :: G, f :: fps, x, h => by rw [List.flatten_cons, List.mem_append]; exact .inr (toFrz_mem (by simpa [toFrz] using h))
  | .ow _ :: G, f :: fps, x, h => by rw [List.flatten_cons, List.mem_append]; exact .inr (toFrz_mem (by simpa [toFrz] using h))
  | [], _, _, h => by simp [toFrz] at h
  | _ :: _, [], _, h => by simp [toFrz] at h
theorem restF_mem : ∀ {G : List Md} {fps : List (List Addr)} {x : Addr}, x ∈ (restF G fps).flatten → x ∈ fps.flatten
  | .fz :: G, f :: fps, x, h => by
    rw [List.flatten_cons, List.mem_append]
    exact .inr (restF_mem (by simpa [restF] using h))
  | .bo :: G, f :: fps, x, h => by
    rw [List.flatten_cons, List.mem_append]
    simp only [restF, List.flatten_cons, List.mem_append] at h
    exact h.imp_right restF_mem
  | .ow _ :: G, f :: fps, x, h => by
    rw [List.flatten_cons, List.mem_append]
    simp only [restF, List.flatten_cons, List.mem_append] at h
    exact h.imp_right restF_mem
  | [], _, _, h => by simpa [restF] using h
  | _ :: _, [], _, h => by simp [restF] at h
theorem restF_apart : ∀ {G : List Md} {fps : List (List Addr)}, fps.flatten.Nodup → (restF G fps).flatten.Nodup ∧ ∀ x ∈ toFrz G fps, x ∉ (restF G fps).flatten
  | .fz :: G, f :: fps, h => by
    rw [List.flatten_cons, List.nodup_append] at h
    obtain ⟨n, k⟩ := restF_apart (G := G) h.2.1
    refine ⟨by simpa [restF] using n, fun x hx hr => ?_⟩
    have hr' : x ∈ (restF G fps).flatten := by simpa [restF] using hr
    rcases List.mem_append.mp (by simpa [toFrz] using hx) with z | z
    · exact h.2.2 x z x (restF_mem hr') rfl
    · exact k x z hr'
  | .bo :: G, f :: fps, h => by
    rw [List.flatten_cons, List.nodup_append] at h
    obtain ⟨n, k⟩ := restF_apart (G := G) h.2.1
    refine ⟨?_, fun x hx hr => ?_⟩
    · simp only [restF, List.flatten_cons]
      exact List.nodup_append.mpr ⟨h.1, n, fun a ha b hb => h.2.2 a ha b (restF_mem hb)⟩
    · simp only [restF, List.flatten_cons, List.mem_append] at hr
      have hx' : x ∈ toFrz G fps := by simpa [toFrz] using hx
      rcases hr with z | z
      · exact h.2.2 x z x (toFrz_mem hx') rfl
      · exact k x hx' z
  | .ow _ :: G, f :: fps, h => by
    rw [List.flatten_cons, List.nodup_append] at h
    obtain ⟨n, k⟩ := restF_apart (G := G) h.2.1
    refine ⟨?_, fun x hx hr => ?_⟩
    · simp only [restF, List.flatten_cons]
      exact List.nodup_append.mpr ⟨h.1, n, fun a ha b hb => h.2.2 a ha b (restF_mem hb)⟩
    · simp only [restF, List.flatten_cons, List.mem_append] at hr
      have hx' : x ∈ toFrz G fps := by simpa [toFrz] using hx
      rcases hr with z | z
      · exact h.2.2 x z x (toFrz_mem hx') rfl
      · exact k x hx' z
  | [], fps, h => ⟨by simpa [restF] using h, fun x hx => by simp [toFrz] at hx⟩
  | _ :: _, [], h => ⟨by simp [restF], fun x hx => by simp [toFrz] at hx⟩
theorem restF_get : ∀ {G : List Md} {fps : List (List Addr)} {i : Nat} {f : List Addr}, fps[i]? = some f → i < G.length → ((G.getD i .fz = .fz ∧ (restF G fps)[i]? = some [] ∧ ∀ x ∈ f, x ∈ toFrz G fps) ∨ (G.getD i .fz ≠ .fz ∧ (restF G fps)[i]? = some f))
  | .fz :: G, g :: fps, 0, f, h, _ => by
    have e : g = f := by simpa using h
    subst e
    exact .inl ⟨rfl, by simp [restF], fun x hx => by simp [toFrz, hx]⟩
  | .bo :: G, g :: fps, 0, f, h, _ => .inr ⟨by simp, by simpa [restF] using h⟩
  | .ow _ :: G, g :: fps, 0, f, h, _ => .inr ⟨by simp, by simpa [restF] using h⟩
  | .fz :: G, g :: fps, i + 1, f, h, hi => by
    rcases restF_get (G := G) (fps := fps) (i := i) (f := f) (by simpa using h) (by simpa using hi) with ⟨a, b, c⟩ | ⟨a, b⟩
    · exact .inl ⟨by simpa using a, by simpa [restF] using b, fun x hx => by simp [toFrz, c x hx]⟩
    · exact .inr ⟨by simpa using a, by simpa [restF] using b⟩
  | .bo :: G, g :: fps, i + 1, f, h, hi => by
    rcases restF_get (G := G) (fps := fps) (i := i) (f := f) (by simpa using h) (by simpa using hi) with ⟨a, b, c⟩ | ⟨a, b⟩
    · exact .inl ⟨by simpa using a, by simpa [restF] using b, fun x hx => by simp [toFrz, c x hx]⟩
    · exact .inr ⟨by simpa using a, by simpa [restF] using b⟩
  | .ow _ :: G, g :: fps, i + 1, f, h, hi => by
    rcases restF_get (G := G) (fps := fps) (i := i) (f := f) (by simpa using h) (by simpa using hi) with ⟨a, b, c⟩ | ⟨a, b⟩
    · exact .inl ⟨by simpa using a, by simpa [restF] using b, fun x hx => by simp [toFrz, c x hx]⟩
    · exact .inr ⟨by simpa using a, by simpa [restF] using b⟩
  | [], _, _, _, _, hi => by cases hi
  | _ :: _, [], _, _, h, _ => by simp at h
theorem Rel.weaken {C : Cl} {pin : List (Nat × V)} {ex : List Addr} (r : Rel C pin G F H σ ρ fps ex) (l : leG G' G = true) :
    ∃ F' fps', Ext F H fps.flatten F' H fps'.flatten ∧ Rel C pin G' F' H σ ρ fps' ex := by
  obtain ⟨hlen, hle⟩ := leG_get l
  have n1 := List.nodup_append.mp r.nd
  obtain ⟨nR, apart⟩ := restF_apart (G := G') n1.2.1
  have s : Sub F (frz F H (toFrz G' fps)) := fun a o e => by
    by_cases h : a ∈ toFrz G' fps
    · rw [r.out a (List.mem_append_right _ (toFrz_mem h))] at e; cases e
    · rw [frz_out h]; exact e
  refine ⟨frz F H (toFrz G' fps), restF G' fps, ⟨s, fun _ _ e _ => e, fun a o e => ?_, fun a ha => .inl (restF_mem ha)⟩, ⟨fun a o e => ?_, fun a xs e => s a _ (r.tups a xs e), r.ls, by rw [restF_len]; exact r.lf, by rw [hlen]; exact r.lg, List.nodup_append.mpr ⟨n1.1, nR, fun a ha b hb => n1.2.2 a ha b (restF_mem hb)⟩, fun a ha => ?_, fun a ha => ?_, fun i d e => ?_, r.pn⟩⟩
  · by_cases h : a ∈ toFrz G' fps
    · exact .inr (.inl (toFrz_mem h))
    · rw [frz_out h] at e; exact .inl e
  · by_cases h : a ∈ toFrz G' fps
    · rw [frz_in h] at e; exact e
    · rw [frz_out h] at e; exact r.sub a o e
  · have nin : a ∉ toFrz G' fps := fun z => by
      rcases List.mem_append.mp ha with q | q
      · exact n1.2.2 a q a (toFrz_mem z) rfl
      · exact apart a z q
    rw [frz_out nin]
    exact r.out a ((List.mem_append.mp ha).elim (fun q => List.mem_append_left _ q) fun q => List.mem_append_right _ (restF_mem q))
  · exact r.live a ((List.mem_append.mp ha).elim (fun q => List.mem_append_left _ q) fun q => List.mem_append_right _ (restF_mem q))
  · obtain ⟨v, fp, e1, e2, h⟩ := r.slot i d e
    have hi : i < G'.length := by rw [hlen, r.lg]; exact (List.getElem?_eq_some_iff.mp e).1
    have hm := hle i hi
    have less : ∀ {md : Md} {d : D} {v : V} {fp : List Addr}, SlotR C F H (ex ++ fps.flatten) md d v fp → SlotR C (frz F H (toFrz G' fps)) H (ex ++ (restF G' fps).flatten) md d v fp := fun q => q.go s (fun _ _ _ e => e) (fun _ _ e _ => e) fun a ha _ =>
      (List.mem_append.mp ha).elim (fun q => List.mem_append_left _ q) fun q => List.mem_append_right _ (restF_mem q)
    rcases restF_get (G := G') e2 hi with ⟨a, b, c⟩ | ⟨a, b⟩
    · refine ⟨v, [], e1, b, ?_⟩
      rw [a]
      refine ⟨rfl, ?_⟩
      cases q : G.getD i .fz with
      | fz => rw [q] at h; exact Rep.mono s d v h.2
      | ow k => rw [q] at h; exact Own.rep s _ d v fp (fun x hx o e => by rw [frz_in (c x hx)]; exact e) h
      | bo => rw [a, q] at hm; cases hm
    · refine ⟨v, fp, e1, b, ?_⟩
      cases q : G.getD i .fz with
      | fz =>
        rw [q] at h hm
        cases q' : G'.getD i .fz with
        | fz => exact absurd q' a
        | bo => exact ⟨h.1, .inl (Rep.mono s d v h.2)⟩
        | ow k => rw [q'] at hm; cases hm
      | bo =>
        rw [q] at h hm
        cases q' : G'.getD i .fz with
        | fz => exact absurd q' a
        | bo => exact less h
        | ow k => rw [q'] at hm; cases hm
      | ow k =>
        rw [q] at h hm
        cases q' : G'.getD i .fz with
        | fz => exact absurd q' a
        | bo => rw [q'] at hm; cases hm
        | ow j =>
          rw [q'] at hm
          have ej : j = k := by simpa [leM] using hm
          subst ej
          exact less h
theorem ss_weak {st : Stmt} {s : M Fl} (h : SS T S G st G1 s) (l : leG G' G1 = true := by rfl) : SS T S G st G' s := PSimp h fun E σ H ⟨F, ρ, fps, r, m⟩ => by
  refine ⟨F, ρ, fps, r, ?_⟩
  cases q : s ρ with
  | ok f ρ1 =>
    rw [q] at m
    cases f with
    | nx =>
      intro σ' F' H' fps' k r'
      obtain ⟨F2, fps2, x, r2⟩ := r'.weaken l
      exact m σ' F2 H' fps2 (k.trans x) r2
    | bk => exact m
    | ct => exact m
    | rt d => exact m
  | ex c ns vs ρ1 => rw [q] at m; exact m
  | bad => rw [q] at m; exact m
end
end DM
end
section
set_option autoImplicit false
set_option Elab.async false
set_option linter.all false
set_option maxRecDepth 100000
set_option maxHeartbeats 4000000
/-! DMG: defs whose promise may use that no value is being shown around them (A.guards = some []). -/
namespace DM
open PySem PySem.Spec PyProof.Rows L2
/-- room, and nothing is being shown -/
structure RoomG (k : Nat) (A : Around) : Prop where
  r : Room k A
  g : A.guards = some []
theorem RoomG.mono {j k : Nat} {A : Around} (h : RoomG k A) (l : j ≤ k) : RoomG j A := ⟨h.r.mono l, h.g⟩
theorem RoomG.deeper {k : Nat} {A : Around} (h : RoomG (k + 1) A) (env : Env) : RoomG k (A.deeper env) := ⟨h.r.deeper env, h.g⟩
theorem RoomG.make {k : Nat} {A : Around} (h : RoomG (k + 1) A) (C : Addr) (us : List Value) (kw : List (Str × Value)) : RoomG k (A.under (.builtin "type.__call__" ⟨.ref C :: us, kw⟩)) :=
  ⟨h.r.make C us kw, by
    have := h.g
    first | exact this | (simpa [Around.under, Code.isGuard, guardIds] using this)⟩
structure FnG (P : Program) (w : World) (K : PySem.W.Frag) (mg : Str → Option Value) (base : Heap) (CX : CXT) (k : Nat) (f : Addr) (fd : FuncData) (ps : List Str) (sp : Sp) : Prop where
  len : ∀ xs H Q E, sp xs H Q E → xs.length = ps.length
  run : ∀ (A : Around) (out : List Env) (s : Shared) (H : Hp) (args : Args) (us : List Value) (xs : List V) (Q : VK) (E : XK), RoomG k A → Env0 P w K mg base A out s H → BindsTo s fd args (ps.zip us) → Vals xs us → sp xs H Q E →
    codeAny (model P w) A (.call (.ref f) args) (CR CX out P w H s Q E) s
theorem FnG.mono {P : Program} {w : World} {K : PySem.W.Frag} {mg : Str → Option Value} {base : Heap} {CX : CXT} {j k : Nat} {f : Addr} {fd : FuncData} {ps : List Str} {sp : Sp} (F : FnG P w K mg base CX j f fd ps sp) (h : j ≤ k) : FnG P w K mg base CX k f fd ps sp :=
  ⟨F.len, fun A out s H args us xs Q E hr => F.run A out s H args us xs Q E (hr.mono h)⟩
section
variable {X : Cx} {CX : CXT} {k : Nat} {f : Addr} {fd : FuncData} {ps : List Str} {sp : Sp} {dvs : List V} {ds : List Value} {E : L2.St → XK} {x : Str} {p pos : Pos} {e : Expr} {es : List Expr} {t : TA}
theorem run_fnG {pins : List (Addr × Obj)} {σ : L2.St} {H : Hp} {s : Shared} {Q : VK} {us : List Value} {vs : List V} (F : FnG X.prog X.w X.K X.mg X.base CX k f fd ps sp) (hr : RoomG k X.A) (hb : Binds X.K fd ps ds) (hd : Vals dvs ds)
    (hx : PassesAt CX X σ (E σ)) (I : Inv X pins σ H s) (r : Vals vs us) (h : sp (vs ++ dvs) H Q (E σ)) : wpAny (model X.prog X.w) X.A (call (.ref f) us) (EP X pins σ Q) X.xe s := by
  have rr : Vals (vs ++ dvs) (us ++ ds) := r.append hd
  have ll : (us ++ ds).length = ps.length := rr.length.symm.trans (F.len _ _ _ _ h)
  have go := F.run X.A X.stack s H ⟨us, []⟩ (us ++ ds) (vs ++ dvs) Q (E σ) hr I.env0 (hb s us I.kIn ll) rr h
  refine wpAny_call (codeAny_mono go fun r s' hq => ?_)
  match r, hq with
  | .error e, hq => exact hx pins H s e s' I hq
  | .ok (.ret u), hq => exact I.after hq
  | .ok .next, hq => exact hq.elim
  | .ok .brk, hq => exact hq.elim
  | .ok .cont, hq => exact hq.elim
theorem pe_callG (F : FnG X.prog X.w X.K X.mg X.base CX k f fd ps sp) (hr : RoomG k X.A) (hg : Gl X x) (hm : X.mg x = some (.ref f)) (hk : PySem.W.keepIn X.K (.ref f) = true) (hb : Binds X.K fd ps ds) (hd : Vals dvs ds)
    (hx : ∀ σ, PassesAt CX X σ (E σ)) (ha : PA X (e :: es) t) (hdb : (x == ("__debug__" : Str)) = false := by decide) (he : starEach (e :: es) X.env = (false, eval e X.env) :: starEach es X.env := by rfl)
    (hpl : (backTo pos (starEach es X.env)).any (·.1) = false := by rfl) : PE X (.Call (.Name x p) (e :: es) [] pos) (tCallSD sp dvs E t) :=
  ⟨fun pins s σ H Q I h => wpAny_Call_Name_kw (ld_glob I hg hm (PySem.W.callWith_K (h₀ := X.base) I.ok.mod.kin hk (thn (ha.run pos pins s σ H _ I h) fun us s1 ⟨vs, H1, I1, r, q⟩ => ⟨I1.kIn, run_fnG F hr hb hd (hx σ) I1 r q⟩) he hpl) hdb)⟩
end
theorem fn_ofG {CX : CXT} {P : Program} {w : World} {K : PySem.W.Frag} {mg : Str → Option Value} {base : Heap} {k : Nat} {f : Addr} {name qual : Str} {params : Arguments} {body : List Stmt} {scope : Scope} {dV kV doc pm cdv ct oc : Value} {an od : Option Addr} {osl : Array (Option Value)} {N ps : List Str} {sp : Sp}
    (lk : K.lookup f = some ⟨oc, od, .func (PySem.W.fnOf name qual params body scope dV kV doc pm an cdv ct), osl⟩) (hcd : PySem.W.codeIn K cdv qual = true) (S : FnScope N ps scope) (len : ∀ xs H Q E, sp xs H Q E → xs.length = ps.length)
    (hbody : ∀ (A : Around) (out : List Env) (s : Shared) (H : Hp) (xs : List V) (Q : VK) (E : XK), RoomG k (A.deeper (envOfC qual scope s.heap.objs.size f cdv)) → sp xs H Q E →
      ∃ t, PSs (cxOf CX P w K mg base N qual scope f cdv A out s H E) body t ∧ t { nx := fun _ H2 => Q .non H2, rt := Q } (start N xs) H) :
    FnG P w K mg base CX (k + 1) f (PySem.W.fnOf name qual params body scope dV kV doc pm an cdv ct) ps sp := by
  refine ⟨len, fun A out s H args us xs Q E hr e0 hb r hsp => ?_⟩
  have hl := len _ _ _ _ hsp
  have kk : K.In s.heap := e0.mod.kin.keeps fun b o q => (e0.bs b o q).1
  have nl : s.heap.NoLimit := e0.mod.nolimit.keeps fun b o q => (e0.bs b o q).1
  have kinds : ∀ y ∈ ps.zip us, scope.names.lookup y.1 = some .local ∨ (scope.names.lookup y.1 = some .cell ∧ ((cellsFrom (s.heap.objs.size + 1) scope.names []).lookup y.1).isSome = true) := by
    intro y hy
    refine (S.par y.1 (List.of_mem_zip hy).1).imp_right fun q => ⟨q, ?_⟩
    exact PySem.W.cellsFrom_some _ _ _ (.inl q)
  refine codeAny_call_function hr.r.depth (kk _ _ lk) rfl S.co S.gen rfl (PySem.W.codeRec_of kk hcd) (hb _ _ _ _ (wpAny_newFunctionEnv_cells S.kind kinds fun env he s1 x => ?_))
  subst he
  refine ⟨nl.keeps x.toInCall.keep, codeAny_func ?_⟩
  obtain ⟨t, ht, hq⟩ := hbody A out s H xs Q E (hr.deeper _) hsp
  have I : Inv (cxOf CX P w K mg base N qual scope f cdv A out s H E) [] (start N xs) H s1 := inv_start S hr.r.hd e0 hl r x
  refine wpAny_mono (ht.run [] s1 (start N xs) H _ I hq) (fun fl s' hs => ?_) fun _ _ q => q
  have fin : ∀ {σ' : L2.St} {H' : Hp} {v : V} {u : Value}, Inv (cxOf CX P w K mg base N qual scope f cdv A out s H E) [] σ' H' s' → RelV v u → Q v H' → CE out P w H s Q u s' :=
    fun {_ H' v _} J rv q => ⟨v, H', J.os, J.bare, J.base, J.hok, rv, q⟩
  match fl, hs with
  | .ret u, hs => exact fin hs.choose_spec.choose_spec.choose_spec.1 hs.choose_spec.choose_spec.choose_spec.2.1 hs.choose_spec.choose_spec.choose_spec.2.2
  | .next, hs => exact fin (v := V.non) (u := Value.none) hs.choose_spec.choose_spec.1 rfl hs.choose_spec.choose_spec.2
  | .brk, hs => exact hs.choose_spec.choose_spec.2.elim
  | .cont, hs => exact hs.choose_spec.choose_spec.2.elim
section
variable {P : Program} {w : World} {K : PySem.W.Frag} {mg : Str → Option Value} {base : Heap}
theorem fun_okG {x qual : Str} {st : Stmt} {f : Addr} {fd : FuncData} {N ps : List Str} {k : Nat} {sp : Sp} (F : Fun K x qual st f fd) (S : FnScope N ps (defScope st)) (len : ∀ xs H Q E, sp xs H Q E → xs.length = ps.length)
    (hbody : ∀ (cdv : Value) (A : Around) (out : List Env) (s : Shared) (H : Hp) (xs : List V) (Q : VK) (E : XK), RoomG k (A.deeper (envOfC qual (defScope st) s.heap.objs.size f cdv)) → sp xs H Q E →
      ∃ t, PSs (cxOf (L2.CX P w) P w K mg base N qual (defScope st) f cdv A out s H E) (defBody st) t ∧ t { nx := fun _ H2 => Q .non H2, rt := Q } (start N xs) H) : FnG P w K mg base (L2.CX P w) (k + 1) f fd ps sp := by
  obtain ⟨oc, od, kV, doc, pm, an, cdv, ct, osl, rfl, lk, hcd⟩ := F.ex
  exact fn_ofG lk hcd S len fun A out s H xs Q E => hbody cdv A out s H xs Q E
end
/-! ### the law's own call -/
theorem law_callG {P : Program} {w : World} {K : PySem.W.Frag} {mg mb : Str → Option Value} {CX : CXT} {k : Nat} {fa a : Addr} {fd : FuncData} {x : Str} {sp : Sp} {s1 : Shared} {vs : List Value} {ns : List Int} (kk : K.In s1.heap) (hns : s1.heap.Ns mainGlobals mg) (hb : s1.heap.Ns builtinsNs mb)
    (hbb : ∀ x : Str, x ≠ "__name__" → mb x = bootBuiltins x) (hlim : s1.heap.NoLimit) (hg : s1.gens = #[]) (ha : s1.heap.get? a = some { cls := .type "list", data := .seq vs.toArray }) (hi : IntsAre vs ns) (hl : ns.length ≤ sizeLine) (hr : RoomG k callerA)
    (F : ∀ base : Heap, K.In base → base.Ns mainGlobals mg → FnG P w K mg base CX k fa fd [x] sp) (hbind : ∀ (s : Shared) (u : Value), BindsTo s fd ⟨[u], []⟩ [(x, u)]) (hsp : ∀ H : Hp, Only H → SqL K H a (ns.map V.int) → sp [.ref a] H (fun v _ => v = .bl true) fun _ _ _ => False)
    (hCX : ∀ H e s', CX [] H s1 (fun _ _ _ => False) e s' → False) :
    codeAny (model P w) callerA (.call (.ref fa) ⟨[.ref a], []⟩) (fun r s' => r = .ok (.ret (.bool true)) ∧ OldK s1.heap s'.heap ∧ s'.os = s1.os ∧ AllBare s'.gens) s1 := by
  have rv := vals_ints hi
  have lv := hi.length
  have main : ∀ H : Hp, Only H → SqL K H a (ns.map V.int) → HOk P w H s1.heap → (∀ b, H b ≠ none → b = a) → (H a ≠ none → K.lookup a = none) →
      codeAny (model P w) callerA (.call (.ref fa) ⟨[.ref a], []⟩) (fun r s' => r = .ok (.ret (.bool true)) ∧ OldK s1.heap s'.heap ∧ s'.os = s1.os ∧ AllBare s'.gens) s1 := by
    intro H hO hS hok one notK
    have isNone : ∀ {b : Addr}, (∀ u, H b = some u → False) → H b = none := fun {b} h => by
      cases q : H b with
      | none => rfl
      | some u => exact (h u q).elim
    have dictN : ∀ {b : Addr} {o : Obj} {es : Array DictEntry} {ep : Nat}, s1.heap.get? b = some o → o.data = .dict es ep → H b = none := fun {b o es ep} e d => isNone fun u q => by
      obtain rfl : b = a := one b (by rw [q]; exact fun z => nomatch z)
      rw [ha] at e
      cases e
      cases d
    have keepN : ∀ {b : Addr} {m : Str → Option Value}, s1.heap.Ns b m → (hidT s1.heap H).Ns b m := fun {b m} ⟨o, es, ep, e, d, r⟩ => ⟨o, es, ep, hidT_get e (dictN e d), d, r⟩
    have kkb : K.In (hidT s1.heap H) := fun b o e => hidT_get (kk b o e) (isNone fun u q => by
      obtain rfl : b = a := one b (by rw [q]; exact fun z => nomatch z)
      have := notK (by rw [q]; exact fun z => nomatch z)
      rw [this] at e
      cases e)
    have hM : Mod K mg (hidT s1.heap H) := ⟨kkb, keepN hns, ⟨mb, keepN hb, hbb⟩, hlim.choose, keepN hlim.choose_spec.1, hlim.choose_spec.2⟩
    have e0 : Env0 P w K mg (hidT s1.heap H) callerA [] s1 H := ⟨rfl, hM, fun b o e => of_hidT e, Nat.le_of_eq (hidT_size _ _), trivial, (fun b hb => nomatch hb), hok, .of_eq hg⟩
    refine codeAny_mono ((F _ kkb (keepN hns)).run callerA [] s1 H ⟨[.ref a], []⟩ [.ref a] [.ref a] _ _ hr e0 (hbind s1 (.ref a)) (.cons rfl .nil) (hsp H hO hS)) fun r s' h => ?_
    match r, h with
    | .error e, h => exact (hCX H e s' h).elim
    | .ok .next, h => exact h.elim
    | .ok .brk, h => exact h.elim
    | .ok .cont, h => exact h.elim
    | .ok (.ret u), h =>
      obtain ⟨v, H2, os, bare, un, ok2, r2, q⟩ := h
      obtain rfl : v = .bl true := q
      obtain rfl : u = Value.bool true := r2
      refine ⟨rfl, OldK.of_keep fun b o e => ?_, os, bare⟩
      rcases hO b with z | ⟨ob, ys, z⟩
      · exact un.keep b o e z (fun z => nomatch z) (fun z => nomatch z)
      · have e1 := (hok b _ z).1
        have e2 := (ok2 b _ (un.frzs b ob _ z)).1
        exact e2.trans (e1.symm.trans e)
  cases hk : K.lookup a with
  | some o =>
    have e := kk a o hk
    rw [ha] at e
    cases e
    exact main (fun _ => none) (fun _ => .inl rfl) (.inr ⟨_, vs.toArray, _, hk, rfl, rfl, rfl, by rw [List.size_toArray, lv]; exact hl, by simpa using rv⟩) (fun b u z => nomatch z) (fun b z => (z rfl).elim) fun z => (z rfl).elim
  | none =>
    let H0 : Hp := fun b => if b = a then some (.frz { cls := .type "list", data := .seq vs.toArray } (.lst (ns.map V.int))) else none
    have h0 : ∀ b, b ≠ a → H0 b = none := fun b n => if_neg n
    have h1 : H0 a = some (.frz { cls := .type "list", data := .seq vs.toArray } (.lst (ns.map V.int))) := if_pos rfl
    refine main H0 (fun b => ?_) (.inl (.inr ⟨_, h1⟩)) (fun b u z => ?_) (fun b z => ?_) fun _ => hk
    · by_cases n : b = a
      · subst n
        exact .inr ⟨_, _, h1⟩
      · exact .inl (h0 b n)
    · by_cases n : b = a
      · subst n
        rw [h1] at z
        cases z
        exact ⟨ha, by rw [List.length_map]; exact hl, vs, _, rv, ha⟩
      · rw [h0 b n] at z
        cases z
    · by_cases n : b = a
      · exact n
      · exact (z (h0 b n)).elim
theorem walk_ofG {l : PySem.W.OpenLaw} {n k : Nat} {q : Program} {loose : List Str} {XP : (Str → Option Value) → Heap → Prop} {YP : World → Heap → Prop} {d : DefRec} {K : Params → PySem.W.Frag} {CX : World → CXT} {sp : World → Sp} {x : Str} (hn : l.most = some n) (hn2 : n ≤ sizeLine) (hdf : d.params.defaults = [])
    (hr : RoomG k callerA) (hY : ∀ (w : World) (h : Heap), YP w h → (K w.params).In h)
    (F : ∀ (w : World) (mg : Str → Option Value) (fa : Addr) (h : Heap), (K w.params).In h → h.Ns mainGlobals mg → mg d.name = some (.ref fa) → ∃ fd : FuncData, (∀ (s : Shared) (u : Value), BindsTo s fd ⟨[u], []⟩ [(x, u)]) ∧ ∀ base : Heap, (K w.params).In base → base.Ns mainGlobals mg → FnG l.prog w (K w.params) mg base (CX w) k fa fd [x] (sp w))
    (hsp : ∀ (w : World) (H : Hp) (a : Addr) (ns : List Int), ns.length ≤ n → Only H → SqL (K w.params) H a (ns.map V.int) → sp w [.ref a] H (fun v _ => v = .bl true) fun _ _ _ => False)
    (hCX : ∀ (w : World) (H : Hp) (s : Shared) (e : Value) (s' : Shared), CX w [] H s (fun _ _ _ => False) e s' → False) : PySem.W.WalkO q loose XP YP l.row.toRowW d [] (fun f vs => PySem.call f vs) := by
  refine Att.attach_call hn hdf fun w s0 s1 mg mb fa o pm cd doc a vs ns G Y ho hd hcd hmg hobj hints hlen hg => ?_
  obtain ⟨fd, hb, hF⟩ := F w mg fa _ (hY w _ Y) G.T.g hmg
  exact law_callG (hY w _ Y) G.T.g G.T.b G.T.builtins G.T.nolimit hg hobj hints (Nat.le_trans hlen hn2) hr hF hb (fun H hO hS => hsp w H a ns hlen hO hS) fun H e s' => hCX w H s1 e s'
end DM
end
section
set_option autoImplicit false
set_option Elab.async false
set_option linter.all false
set_option maxRecDepth 100000
set_option maxHeartbeats 4000000
/-! DM6: what a def computes; calls. -/
namespace DM
open PySem PySem.Spec PyProof.Rows L2

/-- modes of the parameters, kind of the result, the function: behind an owned parameter its new data -/
structure Sig where
  ms : List Md
  rk : Option Nat
  m : List D → R D
def spOf (C : Cl) (g : Sig) : Sp := fun vs H Q E => vs.length = g.ms.length ∧ ∃ F ds fps, Rel C [] g.ms F H (vs.map some) (ds.map some) fps [] ∧ match g.m ds with
  | .ok d ρo => ∀ v F' H' fps' fp, Ext F H fps.flatten F' H' (fp ++ fps'.flatten) → Rel C [] g.ms F' H' (vs.map some) ρo fps' fp → RetR C g.rk F' H' d v fp → Q v H'
  | .ex c ns xs ρo => ∀ cls dx F' H' fps', Ext F H fps.flatten F' H' fps'.flatten → Rel C [] g.ms F' H' (vs.map some) ρo fps' [] → ExR C F' H' c ns xs cls dx → E cls dx H'
  | .bad => False
def outsF : List Md → DEnv → DEnv
  | .ow _ :: ms, d :: ρ => d :: outsF ms ρ
  | _ :: ms, _ :: ρ => none :: outsF ms ρ
  | _, _ => []
def finF (ms : List Md) : R Fl → R D
  | .ok (.rt d) ρ => .ok d (outsF ms ρ)
  | .ok .nx ρ => .ok .non (outsF ms ρ)
  | .ok _ _ => .bad
  | .ex c ns vs ρ => .ex c ns vs (outsF ms ρ)
  | .bad => .bad
def runF (n : Nat) (ms : List Md) (s : M Fl) (ds : List D) : R D := finF ms (s (ds.map some ++ List.replicate (n - ds.length) none))

/-! ### the body -/
def outsP : List Md → List (List Addr) → List (List Addr)
  | .ow _ :: ms, f :: fps => f :: outsP ms fps
  | _ :: ms, _ :: fps => [] :: outsP ms fps
  | _, _ => []
theorem outsF_get : ∀ {ms : List Md} {ρ : DEnv} {i : Nat} {d : D}, (outsF ms ρ)[i]? = some (some d) → ρ[i]? = some (some d) ∧ ∃ k, ms.getD i .fz = .ow k
  | [], ρ, _, _, h => by cases ρ <;> simp [outsF] at h
  | .fz :: ms, [], _, _, h => by simp [outsF] at h
  | .bo :: ms, [], _, _, h => by simp [outsF] at h
  | .ow _ :: ms, [], _, _, h => by simp [outsF] at h
  | .fz :: ms, x :: ρ, 0, _, h => by simp [outsF] at h
  | .bo :: ms, x :: ρ, 0, _, h => by simp [outsF] at h
  | .ow k :: ms, x :: ρ, 0, _, h => ⟨by simpa [outsF] using h, k, rfl⟩
  | .fz :: ms, x :: ρ, i + 1, _, h => by simpa using outsF_get (ms := ms) (i := i) (by simpa [outsF] using h)
  | .bo :: ms, x :: ρ, i + 1, _, h => by simpa using outsF_get (ms := ms) (i := i) (by simpa [outsF] using h)
  | .ow k :: ms, x :: ρ, i + 1, _, h => by simpa using outsF_get (ms := ms) (i := i) (by simpa [outsF] using h)
theorem outsF_len : ∀ {ms : List Md} {ρ : DEnv}, ms.length ≤ ρ.length → (outsF ms ρ).length = ms.length
  | [], ρ, _ => by cases ρ <;> simp [outsF]
  | .fz :: ms, [], h => by simp at h
  | .bo :: ms, [], h => by simp at h
  | .ow _ :: ms, [], h => by simp at h
  | .fz :: ms, x :: ρ, h => by simp [outsF, outsF_len (ms := ms) (ρ := ρ) (by simpa using h)]
  | .bo :: ms, x :: ρ, h => by simp [outsF, outsF_len (ms := ms) (ρ := ρ) (by simpa using h)]
  | .ow _ :: ms, x :: ρ, h => by simp [outsF, outsF_len (ms := ms) (ρ := ρ) (by simpa using h)]
theorem outsP_len : ∀ {ms : List Md} {ρ : List (List Addr)}, ms.length ≤ ρ.length → (outsP ms ρ).length = ms.length
  | [], ρ, _ => by cases ρ <;> simp [outsP]
  | .fz :: ms, [], h => by simp at h
  | .bo :: ms, [], h => by simp at h
  | .ow _ :: ms, [], h => by simp at h
  | .fz :: ms, x :: ρ, h => by simp [outsP, outsP_len (ms := ms) (ρ := ρ) (by simpa using h)]
  | .bo :: ms, x :: ρ, h => by simp [outsP, outsP_len (ms := ms) (ρ := ρ) (by simpa using h)]
  | .ow _ :: ms, x :: ρ, h => by simp [outsP, outsP_len (ms := ms) (ρ := ρ) (by simpa using h)]
theorem outsP_mem : ∀ {ms : List Md} {fps : List (List Addr)} {x : Addr}, x ∈ (outsP ms fps).flatten → x ∈ fps.flatten
  | [], fps, _, h => by cases fps <;> simp [outsP] at h
  | .fz :: ms, [], _, h => by simp [outsP] at h
  | .bo :: ms, [], _, h => by simp [outsP] at h
  | .ow _ :: ms, [], _, h => by simp [outsP] at h
  | .fz :: ms, f :: fps, x, h => by rw [List.flatten_cons, List.mem_append]; exact .inr (outsP_mem (by simpa [outsP] using h))
  | .bo :: ms, f :: fps, x, h => by rw [List.flatten_cons, List.mem_append]; exact .inr (outsP_mem (by simpa [outsP] using h))
  | .ow _ :: ms, f :: fps, x, h => by
    rw [List.flatten_cons, List.mem_append]
    simp only [outsP, List.flatten_cons, List.mem_append] at h
    exact h.imp_right outsP_mem
theorem outsP_nodup : ∀ {ms : List Md} {fps : List (List Addr)}, fps.flatten.Nodup → (outsP ms fps).flatten.Nodup
  | [], fps, h => by cases fps <;> simp [outsP]
  | .fz :: ms, [], h => by simp [outsP]
  | .bo :: ms, [], h => by simp [outsP]
  | .ow _ :: ms, [], h => by simp [outsP]
  | .fz :: ms, f :: fps, h => by
    rw [List.flatten_cons, List.nodup_append] at h
    simpa [outsP] using outsP_nodup (ms := ms) h.2.1
  | .bo :: ms, f :: fps, h => by
    rw [List.flatten_cons, List.nodup_append] at h
    simpa [outsP] using outsP_nodup (ms := ms) h.2.1
  | .ow _ :: ms, f :: fps, h => by
    rw [List.flatten_cons, List.nodup_append] at h
    simp only [outsP, List.flatten_cons]
    exact List.nodup_append.mpr ⟨h.1, outsP_nodup h.2.1, fun a ha b hb => h.2.2 a ha b (outsP_mem hb)⟩
theorem outsP_get : ∀ {ms : List Md} {fps : List (List Addr)} {i : Nat} {f : List Addr} {k : Nat}, fps[i]? = some f → ms.getD i .fz = .ow k → (outsP ms fps)[i]? = some f
  | [], _, _, _, _, _, h => by simp at h
  | _ :: ms, [], i, _, _, h, _ => by simp at h
  | .fz :: ms, f :: fps, 0, g, k, h, hm => by simp at hm
  | .bo :: ms, f :: fps, 0, g, k, h, hm => by simp at hm
  | .ow j :: ms, f :: fps, 0, g, k, h, hm => by simpa [outsP] using h
  | .fz :: ms, f :: fps, i + 1, g, k, h, hm => by simpa [outsP] using outsP_get (ms := ms) (i := i) (by simpa using h) (by simpa using hm)
  | .bo :: ms, f :: fps, i + 1, g, k, h, hm => by simpa [outsP] using outsP_get (ms := ms) (i := i) (by simpa using h) (by simpa using hm)
  | .ow j :: ms, f :: fps, i + 1, g, k, h, hm => by simpa [outsP] using outsP_get (ms := ms) (i := i) (by simpa using h) (by simpa using hm)
/-- the places of the owned parameters -/
def ioOf : Nat → List Md → List Nat
  | _, [] => []
  | i, .ow _ :: ms => i :: ioOf (i + 1) ms
  | i, _ :: ms => ioOf (i + 1) ms
theorem ioOf_mem : ∀ {ms : List Md} {i j : Nat} {k : Nat}, ms.getD j .fz = .ow k → i + j ∈ ioOf i ms
  | [], _, _, _, h => by simp at h
  | .ow _ :: ms, i, 0, k, h => by simp [ioOf]
  | .fz :: ms, i, 0, k, h => by simp at h
  | .bo :: ms, i, 0, k, h => by simp at h
  | .ow _ :: ms, i, j + 1, k, h => by
    have := ioOf_mem (ms := ms) (i := i + 1) (j := j) (k := k) (by simpa using h)
    rw [show i + (j + 1) = i + 1 + j by omega]
    simp [ioOf, this]
  | .fz :: ms, i, j + 1, k, h => by
    have := ioOf_mem (ms := ms) (i := i + 1) (j := j) (k := k) (by simpa using h)
    rw [show i + (j + 1) = i + 1 + j by omega]
    simpa [ioOf] using this
  | .bo :: ms, i, j + 1, k, h => by
    have := ioOf_mem (ms := ms) (i := i + 1) (j := j) (k := k) (by simpa using h)
    rw [show i + (j + 1) = i + 1 + j by omega]
    simpa [ioOf] using this
/-- the modes at the end have the owned parameters as they were told -/
def sameIo : List Md → List Md → Bool
  | [], _ => true
  | .ow k :: ms, .ow j :: G => k == j && sameIo ms G
  | .ow _ :: _, _ => false
  | _ :: ms, _ :: G => sameIo ms G
  | _ :: ms, [] => sameIo ms []
theorem sameIo_get : ∀ {ms G : List Md} {i k : Nat}, sameIo ms G = true → ms.getD i .fz = .ow k → G.getD i .fz = .ow k
  | [], _, _, _, _, h => by simp at h
  | .ow k :: ms, .ow j :: G, 0, k', h, hm => by
    simp only [sameIo, Bool.and_eq_true, beq_iff_eq] at h
    simp at hm ⊢; omega
  | .ow k :: ms, .ow j :: G, i + 1, k', h, hm => by
    simp only [sameIo, Bool.and_eq_true] at h
    simpa using sameIo_get (i := i) h.2 (by simpa using hm)
  | .ow _ :: _, [], _, _, h, _ => by simp [sameIo] at h
  | .ow _ :: _, .fz :: _, _, _, h, _ => by simp [sameIo] at h
  | .ow _ :: _, .bo :: _, _, _, h, _ => by simp [sameIo] at h
  | .fz :: ms, _, 0, _, _, hm => by simp at hm
  | .bo :: ms, _, 0, _, _, hm => by simp at hm
  | .fz :: ms, g :: G, i + 1, k, h, hm => by
    have h' : sameIo ms G = true := by cases g <;> simpa [sameIo] using h
    simpa using sameIo_get (i := i) h' (by simpa using hm)
  | .bo :: ms, g :: G, i + 1, k, h, hm => by
    have h' : sameIo ms G = true := by cases g <;> simpa [sameIo] using h
    simpa using sameIo_get (i := i) h' (by simpa using hm)
  | .fz :: ms, [], i + 1, k, h, hm => by
    have := sameIo_get (ms := ms) (G := []) (i := i) (by simpa [sameIo] using h) (by simpa using hm)
    simp at this
  | .bo :: ms, [], i + 1, k, h, hm => by
    have := sameIo_get (ms := ms) (G := []) (i := i) (by simpa [sameIo] using h) (by simpa using hm)
    simp at this

section
variable {C : Cl} {pin : List (Nat × V)} {ms G : List Md} {F H F' H' : Hp} {σ : Sl} {ρ : DEnv} {fps : List (List Addr)} {ex : List Addr} {vs : List V}
/-- at the end: the parameters alone -/
theorem Rel.leave (r : Rel C pin G F H σ ρ fps ex) (io : sameIo ms G = true) (hl : vs.length = ms.length) (hn : ms.length ≤ ρ.length) (hp : ∀ i k v, ms.getD i .fz = .ow k → vs[i]? = some v → σ[i]? = some (some v)) :
    Rel C [] ms F H (vs.map some) (outsF ms ρ) (outsP ms fps) ex := by
  have n1 := List.nodup_append.mp r.nd
  have sub : ∀ a ∈ ex ++ (outsP ms fps).flatten, a ∈ ex ++ fps.flatten := fun a ha => (List.mem_append.mp ha).elim (fun z => List.mem_append_left _ z) fun z => List.mem_append_right _ (outsP_mem z)
  have e1 := outsF_len hn
  refine ⟨r.sub, r.tups, by rw [e1, List.length_map]; exact hl, by rw [e1]; exact outsP_len (by rw [r.lf]; exact hn), e1.symm, List.nodup_append.mpr ⟨n1.1, outsP_nodup n1.2.1, fun a ha b hb => n1.2.2 a ha b (outsP_mem hb)⟩, fun a ha => r.out a (sub a ha), fun a ha => r.live a (sub a ha), fun i d e => ?_, fun p hp => nomatch hp⟩
  obtain ⟨e2, k, hk⟩ := outsF_get e
  obtain ⟨v, fp, e3, e4, h⟩ := r.slot i d e2
  have hi : i < vs.length := by
    rw [hl, ← e1]; exact (List.getElem?_eq_some_iff.mp e).1
  obtain ⟨w, hw⟩ : ∃ w, vs[i]? = some w := ⟨_, List.getElem?_eq_getElem hi⟩
  have q := hp i k w hk hw
  rw [e3] at q; cases q
  refine ⟨v, fp, by rw [List.getElem?_map, hw]; rfl, outsP_get e4 hk, ?_⟩
  rw [hk]
  rw [sameIo_get io hk] at h
  exact h
theorem flatten_rep (fps : List (List Addr)) (n : Nat) : (fps ++ List.replicate n []).flatten = fps.flatten := by
  rw [List.flatten_append]
  have : (List.replicate n ([] : List Addr)).flatten = [] := by induction n <;> simp_all [List.replicate_succ]
  rw [this, List.append_nil]
/-- at the start: the other names have no value -/
theorem Rel.enter {n : Nat} {ds : List D} (r : Rel C [] ms F H (vs.map some) (ds.map some) fps []) (hp : ∀ p ∈ pin, vs[p.1]? = some p.2) :
    Rel C pin (ms ++ List.replicate n .fz) F H (vs.map some ++ List.replicate n none) (ds.map some ++ List.replicate n none) (fps ++ List.replicate n []) [] := by
  refine ⟨r.sub, r.tups, by simpa using r.ls, by simpa using r.lf, by simpa using r.lg, by rw [flatten_rep]; exact r.nd, fun a ha => r.out a (by rw [flatten_rep] at ha; exact ha), fun a ha => r.live a (by rw [flatten_rep] at ha; exact ha), fun i d e => ?_, fun p hpin => ?_⟩
  · by_cases hi : i < (ds.map some).length
    · rw [List.getElem?_append_left hi] at e
      obtain ⟨v, fp, e1, e2, h⟩ := r.slot i d e
      have h1 := (List.getElem?_eq_some_iff.mp e1).1
      have h2 := (List.getElem?_eq_some_iff.mp e2).1
      refine ⟨v, fp, by rw [List.getElem?_append_left h1]; exact e1, by rw [List.getElem?_append_left h2]; exact e2, ?_⟩
      rw [flatten_rep]
      have hm : (ms ++ List.replicate n Md.fz).getD i .fz = ms.getD i .fz := by
        rw [List.getD_eq_getElem?_getD, List.getElem?_append_left (by rw [r.lg]; exact hi), ← List.getD_eq_getElem?_getD]
      rw [hm]; exact h
    · rw [List.getElem?_append_right (by omega), List.getElem?_replicate] at e
      split at e <;> cases e
  · have q := hp p hpin
    have hlt := (List.getElem?_eq_some_iff.mp q).1
    rw [List.getElem?_append_left (by simpa using hlt), List.getElem?_map, q]; rfl
end

/-! ### a def by its body -/
def ctOf (C : Cl) (P : Program) (w : World) (K : PySem.W.Frag) (mg : Str → Option Value) (base : Heap) (N : List Str) (qual : Str) (sc : Scope) (f : Addr) (cdv : Value) (A : Around) (outer : List Env) (s : Shared) (H : Hp) (E : XK) (vs : List V) (io : List Nat) (gx : List Md) : Ct :=
  ⟨cxOf (L2.CX P w) P w K mg base N qual sc f cdv A outer s H E, C, io.map fun i => (i, vs.getD i .non), gx, fun cls d _ H' => E cls d H'⟩
section
variable {P : Program} {w : World} {K : PySem.W.Frag} {mg : Str → Option Value} {base : Heap}
theorem Rel.relax {C : Cl} {pin : List (Nat × V)} {G G' : List Md} {F H : Hp} {σ : Sl} {ρ : DEnv} {fps : List (List Addr)} {ex : List Addr} (r : Rel C pin G F H σ ρ fps ex) (l : G'.length = G.length) (h : ∀ i d, ρ[i]? = some (some d) → G'.getD i .fz = G.getD i .fz) : Rel C pin G' F H σ ρ fps ex :=
  ⟨r.sub, r.tups, r.ls, r.lf, by rw [l]; exact r.lg, r.nd, r.out, r.live, fun i d e => by rw [h i d e]; exact r.slot i d e, r.pn⟩
theorem fn_ok {x qual : Str} {st : Stmt} {f : Addr} {fd : FuncData} {N ps : List Str} {k : Nat} {C : Cl} {ms : List Md} {rk : Option Nat} {G' : List Md} {body : M Fl} (F : Fun K x qual st f fd) (sc : FnScope N ps (defScope st)) (hK : C.K = K) (hm : ms.length = ps.length) {ls : List Md} (hls : ls.length = N.length - ms.length)
    (hle : leG (ms ++ ls) G' = true)
    (hb : ∀ (cdv : Value) (A : Around) (outer : List Env) (s : Shared) (H : Hp) (E : XK) (vs : List V), RoomG k (A.deeper (envOfC qual (defScope st) s.heap.objs.size f cdv)) →
      (ctOf C P w K mg base N qual (defScope st) f cdv A outer s H E vs (ioOf 0 ms) (ms ++ ls)).Ok →
      SB (ctOf C P w K mg base N qual (defScope st) f cdv A outer s H E vs (ioOf 0 ms) (ms ++ ls)) ⟨[], [], ms ++ ls, rk⟩ (ms ++ ls) (defBody st) G' body) :
    FnG P w K mg base (L2.CX P w) (k + 1) f fd ps (spOf C ⟨ms, rk, runF N.length ms body⟩) := by
  refine fun_okG F sc (fun vs H Q E h => h.1.trans hm) fun cdv A outer s H vs Q E hr h => ?_
  obtain ⟨hl, F0, ds, fps, r, q⟩ := h
  have hl : vs.length = ms.length := hl
  have hN : ms.length ≤ N.length := by
    rw [hm]
    have := congrArg List.length sc.pre
    rw [List.length_take] at this; omega
  have lds : ds.length = ms.length := by have := r.lg; simpa using this.symm
  let T : Ct := ctOf C P w K mg base N qual (defScope st) f cdv A outer s H E vs (ioOf 0 ms) (ms ++ ls)
  have ok : T.Ok := ⟨hK, rfl, sc.nd, takes_of rfl rfl rfl rfl, by have := hr.r.un; show (A.deeper _).units + 80 < _; omega, hr.g⟩
  have B := hb cdv A outer s H E vs hr ok
  refine ⟨_, B, ?_⟩
  have r1 : Rel C T.pin (ms ++ ls) F0 H (start N vs) (ds.map some ++ List.replicate (N.length - ds.length) none) (fps ++ List.replicate (N.length - ms.length) []) [] := by
    have z := r.enter (pin := T.pin) (n := N.length - ms.length) (fun p hp => by
      obtain ⟨i, hi, rfl⟩ := List.mem_map.mp hp
      have hlt : i < ms.length := by
        have aux : ∀ (ms : List Md) (b i : Nat), i ∈ ioOf b ms → i < b + ms.length := by
          intro ms
          induction ms with
          | nil => intro b i h; simp [ioOf] at h
          | cons a ms ih =>
            intro b i h
            cases a with
            | fz => have := ih (b + 1) i (by simpa [ioOf] using h); simp; omega
            | bo => have := ih (b + 1) i (by simpa [ioOf] using h); simp; omega
            | ow k =>
              rcases List.mem_cons.mp (by simpa [ioOf] using h : i ∈ b :: ioOf (b + 1) ms) with z | z
              · subst z; simp
              · have := ih (b + 1) i z; simp; omega
        have := aux ms 0 i hi; omega
      show vs[i]? = some (vs.getD i .non)
      rw [List.getD_eq_getElem?_getD, List.getElem?_eq_getElem (by omega)]; rfl)
    show Rel C T.pin _ F0 H (vs.map some ++ List.replicate (N.length - vs.length) none) _ _ _
    rw [hl, lds]
    refine z.relax (by simp [hls]) fun i d e => ?_
    have hi : i < ms.length := by
      by_cases hi : i < ms.length
      · exact hi
      · rw [List.getElem?_append_right (by simp [lds]; omega), List.getElem?_replicate] at e
        split at e <;> cases e
    rw [List.getD_eq_getElem?_getD, List.getD_eq_getElem?_getD, List.getElem?_append_left hi, List.getElem?_append_left hi]
  refine ⟨F0, _, _, r1, ?_⟩
  have flt : (fps ++ List.replicate (N.length - ms.length) []).flatten = fps.flatten := flatten_rep _ _
  rw [flt]
  have io0 : sameIo ms (ms ++ ls) = true := by
    have aux : ∀ (ms : List Md) (l : List Md), sameIo ms (ms ++ l) = true := by
      intro ms
      induction ms with
      | nil => intro l; simp [sameIo]
      | cons a ms ih => intro l; cases a <;> simp [sameIo, ih l]
    exact aux ms _
  have pin : ∀ {G : List Md} {F' H' : Hp} {σ' : Sl} {ρ' : DEnv} {fps' : List (List Addr)} {ex : List Addr}, Rel C T.pin G F' H' σ' ρ' fps' ex → ∀ i k v, ms.getD i .fz = .ow k → vs[i]? = some v → σ'[i]? = some (some v) := fun r' i k v hk hv => by
    have hmem : i ∈ ioOf 0 ms := by have := ioOf_mem (i := 0) (j := i) hk; simpa using this
    have := r'.pn (i, vs.getD i .non) (List.mem_map.mpr ⟨i, hmem, rfl⟩)
    rw [this, List.getD_eq_getElem?_getD, hv]; rfl
  have lN : ∀ {F' H' : Hp} {σ' : Sl} {ρ' : DEnv} {fps' : List (List Addr)} {ex : List Addr}, Rel C T.pin (ms ++ ls) F' H' σ' ρ' fps' ex → ms.length ≤ ρ'.length := fun r' => by
    rw [← r'.lg, List.length_append]; omega
  show RemS T _ G' (body (ds.map some ++ List.replicate (N.length - ds.length) none)) F0 H fps.flatten _
  have qq : (match finF ms (body (ds.map some ++ List.replicate (N.length - ds.length) none)) with
    | .ok d ρo => ∀ v F' H' fps' fp, Ext F0 H fps.flatten F' H' (fp ++ fps'.flatten) → Rel C [] ms F' H' (vs.map some) ρo fps' fp → RetR C rk F' H' d v fp → Q v H'
    | .ex c ns xs ρo => ∀ cls dx F' H' fps', Ext F0 H fps.flatten F' H' fps'.flatten → Rel C [] ms F' H' (vs.map some) ρo fps' [] → ExR C F' H' c ns xs cls dx → E cls dx H'
    | .bad => False) := q
  cases e : body (ds.map some ++ List.replicate (N.length - ds.length) none) with
  | ok fl ρ1 =>
    rw [e] at qq
    cases fl with
    | nx =>
      intro σ' F' H' fps' x r'
      obtain ⟨F2, fps2, x2, r2⟩ := r'.weaken hle
      have r3 := r2.leave io0 hl (lN r2) (pin r2)
      refine qq .non F2 H' _ [] ((x.trans x2).less fun a ha => outsP_mem ha) r3 ?_
      cases rk with
      | none => exact ⟨rfl, by unfold Rep; rfl⟩
      | some n => exact ⟨rfl, by unfold Rep; rfl⟩
    | bk => exact qq.elim
    | ct => exact qq.elim
    | rt d =>
      intro v σ' F' H' fps' fp x r' z
      have r3 := Rel.leave r' io0 hl (lN r') (pin r')
      exact qq v F' H' _ fp (x.less fun a ha => (List.mem_append.mp ha).elim (fun z => List.mem_append_left _ z) fun z => List.mem_append_right _ (outsP_mem z)) r3 z
  | ex c ns xs ρ1 =>
    rw [e] at qq
    intro σ' cls dx F' H' fps' x r' z
    have r3 := Rel.leave r' io0 hl (lN r') (pin r')
    exact qq cls dx F' H' _ (x.less fun a ha => outsP_mem ha) r3 z
  | bad => rw [e] at qq; exact qq.elim
end
end DM
end
section
set_option autoImplicit false
set_option Elab.async false
set_option linter.all false
set_option maxRecDepth 100000
set_option maxHeartbeats 4000000
/-! DM7: arguments, calls of defs. -/
namespace DM
open PySem PySem.Spec PyProof.Rows L2

def ArgsV (C : Cl) (F : Hp) (σ : Sl) : List (Option Nat) → List Opn → List V → Prop
  | [], [], [] => True
  | B :: Bs, o :: os, v :: vs => OpdV C F σ B o v ∧ ArgsV C F σ Bs os vs
  | _, _, _ => False
def rA (C : Cl) (Bs : List (Option Nat)) : RRel (List Opn) (List V) := fun os σ F _ _ vs fp => fp = [] ∧ ArgsV C F σ Bs os vs
def SA (T : Ct) (G : List Md) (es : List Expr) (Bs : List (Option Nat)) (G' : List Md) (m : M (List Opn)) : Prop := PA T.X es (tG T G G' (rA T.C Bs) m)
def mCons (m : M Opn) (ms : M (List Opn)) : M (List Opn) := bindM m fun o => bindM ms fun os => retM (o :: os)
def resL (ρ : DEnv) : List Opn → Option (List D)
  | [] => some []
  | o :: os => match resO ρ o, resL ρ os with
    | some d, some ds => some (d :: ds)
    | _, _ => none

section
variable {T : Ct} {G G1 G2 G' : List Md} {F F1 F' H H1 H' : Hp} {U U1 : List Addr} {σ : Sl} {ρ : DEnv} {fps fps1 : List (List Addr)} {ex : List Addr} {C : Cl} {pin : List (Nat × V)}
theorem sa_nil : SA T G [] [] G (retM []) := PAimp pa_nil fun σ H Q ⟨F, ρ, fps, ex, r, m⟩ => Rem.fin (fp := []) m (Ext.refl _ _ _) r ⟨rfl, trivial⟩
theorem ArgsV.mono {Bs : List (Option Nat)} {os : List Opn} {vs : List V} (s : Sub F F') : ∀ {Bs : List (Option Nat)} {os : List Opn} {vs : List V}, ArgsV C F σ Bs os vs → ArgsV C F' σ Bs os vs
  | [], [], [], _ => trivial
  | _ :: _, _ :: _, _ :: _, h => ⟨h.1.mono s, ArgsV.mono (Bs := []) (os := []) (vs := []) s h.2⟩
  | [], [], _ :: _, h => h.elim
  | [], _ :: _, _, h => h.elim
  | _ :: _, [], _, h => h.elim
  | _ :: _, _ :: _, [], h => h.elim
theorem sa_cons {e : Expr} {es : List Expr} {B : Option Nat} {Bs : List (Option Nat)} {m : M Opn} {ms : M (List Opn)} (he : SO T G e B G1 m) (hr : SA T G1 es Bs G2 ms) (hs : starEach (e :: es) T.X.env = (false, eval e T.X.env) :: starEach es T.X.env := by rfl) :
    SA T G (e :: es) (B :: Bs) G2 (mCons m ms) := PAimp (pa_cons he hr hs) fun σ H Q ⟨F, ρ, fps, ex, r0, m0⟩ => by
  refine seqR r0 m0 fun o x F1 H1 ρ1 fps1 fp1 e1 r1 z1 m1 => ?_
  obtain ⟨rfl, z1⟩ := z1
  refine seqR r1 m1 fun os xs F2 H2 ρ2 fps2 fp2 e2 r2 z2 m2 => ?_
  obtain ⟨rfl, z2⟩ := z2
  exact Rem.fin (fp := []) m2 (Ext.refl _ _ _) r2 ⟨rfl, z1.mono e2.e1, z2⟩
theorem ArgsV.lens : ∀ {Bs : List (Option Nat)} {os : List Opn} {vs : List V}, ArgsV C F σ Bs os vs → Bs.length = vs.length ∧ os.length = vs.length
  | [], [], [], _ => ⟨rfl, rfl⟩
  | _ :: _, _ :: _, _ :: _, h => by obtain ⟨a, b⟩ := ArgsV.lens h.2; simp [a, b]
  | [], [], _ :: _, h => h.elim
  | [], _ :: _, _, h => h.elim
  | _ :: _, [], _, h => h.elim
  | _ :: _, _ :: _, [], h => h.elim
theorem ArgsV.get : ∀ {Bs : List (Option Nat)} {os : List Opn} {vs : List V} {j : Nat} {o : Opn}, ArgsV C F σ Bs os vs → os[j]? = some o → ∃ B v, Bs[j]? = some B ∧ vs[j]? = some v ∧ OpdV C F σ B o v
  | [], [], [], _, _, _, e => by simp at e
  | B :: _, o :: _, v :: _, 0, o', h, e => by
    simp at e; subst e
    exact ⟨B, v, rfl, rfl, h.1⟩
  | _ :: _, _ :: _, _ :: _, j + 1, o', h, e => by
    obtain ⟨B, v, a, b, c⟩ := ArgsV.get (j := j) h.2 (by simpa using e)
    exact ⟨B, v, by simpa using a, by simpa using b, c⟩
  | [], [], _ :: _, _, _, h, _ => h.elim
  | [], _ :: _, _, _, _, h, _ => h.elim
  | _ :: _, [], _, _, _, h, _ => h.elim
  | _ :: _, _ :: _, [], _, _, h, _ => h.elim
theorem resL_get : ∀ {os : List Opn} {ds : List D} {j : Nat} {d : D}, resL ρ os = some ds → ds[j]? = some d → ∃ o, os[j]? = some o ∧ resO ρ o = some d
  | [], ds, j, d, h, e => by simp [resL] at h; subst h; simp at e
  | o :: os, ds, j, d, h, e => by
    unfold resL at h
    cases q1 : resO ρ o with
    | none => rw [q1] at h; simp at h
    | some d1 =>
      cases q2 : resL ρ os with
      | none => rw [q1, q2] at h; simp at h
      | some ds1 =>
        rw [q1, q2] at h
        simp at h; subst h
        cases j with
        | zero => simp at e; subst e; exact ⟨o, rfl, q1⟩
        | succ j => simpa using resL_get (j := j) q2 (by simpa using e)
theorem resL_len : ∀ {os : List Opn} {ds : List D}, resL ρ os = some ds → ds.length = os.length
  | [], ds, h => by simp [resL] at h; subst h; rfl
  | o :: os, ds, h => by
    unfold resL at h
    cases q1 : resO ρ o with
    | none => rw [q1] at h; simp at h
    | some d1 =>
      cases q2 : resL ρ os with
      | none => rw [q1, q2] at h; simp at h
      | some ds1 =>
        rw [q1, q2] at h
        simp at h; subst h
        simp [resL_len q2]

/-! ### the caller's state behind a call -/
theorem Rel.after0 {fp : List Addr} (r : Rel C pin G F H σ ρ fps ex) (x : Ext F H [] F' H' fp) (s : Sub F' H') (tp : ∀ a xs, H' a = some (.tup xs) → F' a = some (.tup xs)) (nd : fp.Nodup) (o : ∀ a ∈ fp, F' a = none) (l : ∀ a ∈ fp, ∃ o, H' a = some o) :
    Ext F H fps.flatten F' H' (fp ++ fps.flatten) ∧ Rel C pin G F' H' σ ρ fps (fp ++ ex) := by
  have keep : ∀ a u, H a = some u → H' a = some u := fun a u e => x.e2 a u e (by simp)
  have newp : ∀ a ∈ fp, H a = none := fun a ha => (x.e4 a ha).elim (fun z => by cases z) id
  have apart : ∀ a ∈ fp, ∀ b ∈ ex ++ fps.flatten, a ≠ b := fun a ha b hb e => by
    subst e
    obtain ⟨u, e⟩ := r.live a hb
    rw [newp a ha] at e; cases e
  have sub : ∀ a ∈ fp ++ ex ++ fps.flatten, a ∈ fp ∨ a ∈ ex ++ fps.flatten := fun a ha => by
    rw [List.append_assoc] at ha
    exact List.mem_append.mp ha
  refine ⟨⟨x.e1, fun a u e _ => keep a u e, fun a u e => (x.e3 a u e).imp_right fun h => h.elim (fun z => by cases z) .inr, fun a ha => (List.mem_append.mp ha).elim (fun z => .inr (newp a z)) .inl⟩, ⟨s, tp, r.ls, r.lf, r.lg, ?_, fun a ha => ?_, fun a ha => ?_, fun i d e => ?_, r.pn⟩⟩
  · rw [List.append_assoc]
    exact List.nodup_append.mpr ⟨nd, r.nd, fun a ha b hb => apart a ha b hb⟩
  · rcases sub a ha with z | z
    · exact o a z
    · cases q : F' a with
      | none => rfl
      | some u =>
        rcases x.e3 a u q with h | h | h
        · rw [r.out a z] at h; cases h
        · cases h
        · obtain ⟨u, e⟩ := r.live a z
          rw [h] at e; cases e
  · rcases sub a ha with z | z
    · exact l a z
    · exact (r.live a z).imp fun u e => keep a u e
  · obtain ⟨v, f, e1, e2, h⟩ := r.slot i d e
    refine ⟨v, f, e1, e2, h.go x.e1 (fun a _ u e => keep a u e) (fun a u e _ => keep a u e) fun a ha ⟨u, e⟩ => ?_⟩
    rcases sub a ha with z | z
    · rw [newp a z] at e; cases e
    · exact z
theorem Rel.afterIo {fp f f' : List Addr} {i k : Nat} {v : V} {d' : D} (r : Rel C pin G F H σ ρ fps ex) (hi : fps[i]? = some f) (hm : G.getD i .fz = .ow k) (hv : σ[i]? = some (some v)) (x : Ext F H f F' H' (fp ++ f')) (s : Sub F' H') (tp : ∀ a xs, H' a = some (.tup xs) → F' a = some (.tup xs)) (nd : (fp ++ f').Nodup) (o : ∀ a ∈ fp ++ f', F' a = none)
    (l : ∀ a ∈ fp ++ f', ∃ o, H' a = some o) (own : Own C F' H' (k + 1) d' v f') :
    Ext F H fps.flatten F' H' (fp ++ (fps.set i f').flatten) ∧ Rel C pin G F' H' σ (ρ.set i (some d')) (fps.set i f') (fp ++ ex) := by
  have nr := List.nodup_append.mp r.nd
  have nn := List.nodup_append.mp nd
  have hil : i < ρ.length := by rw [← r.lf]; exact (List.getElem?_eq_some_iff.mp hi).1
  have hU : ∀ a ∈ f, a ∈ fps.flatten := fun a ha => mem_flatten_get hi ha
  have exf : ∀ a ∈ ex, a ∉ f := fun a ha z => nr.2.2 a ha a (hU a z) rfl
  have others : ∀ j g, j ≠ i → fps[j]? = some g → ∀ a ∈ g, a ∉ f := fun j g hj hg a ha z => apart_parts nr.2.1 hj hg hi ha z
  have keep : ∀ a u, H a = some u → a ∉ f → H' a = some u := x.e2
  -- what lives outside f is not among the new addresses
  have fresh : ∀ a, (∃ u, H a = some u) → a ∉ f → a ∉ fp ++ f' := fun a ⟨u, e⟩ n z => by
    rcases x.e4 a z with h | h
    · exact n h
    · rw [h] at e; cases e
  have outF : ∀ a, (∃ u, H a = some u) → a ∉ f → F a = none → F' a = none := fun a ⟨u, e⟩ n h => by
    cases q : F' a with
    | none => rfl
    | some w =>
      rcases x.e3 a w q with z | z | z
      · rw [h] at z; cases z
      · exact absurd z n
      · rw [z] at e; cases e
  have split : ∀ a ∈ fp ++ ex ++ (fps.set i f').flatten, a ∈ fp ++ f' ∨ ((∃ u, H a = some u) ∧ a ∉ f ∧ a ∈ ex ++ fps.flatten) := fun a ha => by
    rcases List.mem_append.mp ha with z | z
    · rcases List.mem_append.mp z with z | z
      · exact .inl (List.mem_append_left _ z)
      · exact .inr ⟨r.live a (List.mem_append_left _ z), exf a z, List.mem_append_left _ z⟩
    · obtain ⟨g, hg, hag⟩ := List.mem_flatten.mp z
      obtain ⟨j, hj⟩ := List.getElem?_of_mem hg
      by_cases hji : j = i
      · subst hji
        rw [List.getElem?_set_self (by rw [r.lf]; exact hil)] at hj
        cases hj
        exact .inl (List.mem_append_right _ hag)
      · rw [List.getElem?_set_ne (Ne.symm hji)] at hj
        have hm := mem_flatten_get hj hag
        exact .inr ⟨r.live a (List.mem_append_right _ hm), others j g hji hj a hag, List.mem_append_right _ hm⟩
  refine ⟨⟨x.e1, fun a u e n => keep a u e fun z => n (hU a z), fun a u e => (x.e3 a u e).imp_right fun h => h.imp_left (hU a), fun a ha => ?_⟩, ⟨s, tp, by simp [r.ls], by simp [r.lf], by simp [r.lg], ?_, fun a ha => ?_, fun a ha => ?_, fun j d e => ?_, r.pn⟩⟩
  · rcases List.mem_append.mp ha with z | z
    · exact (x.e4 a (List.mem_append_left _ z)).imp_left (hU a)
    · rcases flatten_set_sub z with z | z
      · exact (x.e4 a (List.mem_append_right _ z)).imp_left (hU a)
      · exact .inl z
  · rw [List.append_assoc]
    refine List.nodup_append.mpr ⟨nn.1, List.nodup_append.mpr ⟨nr.1, nodup_set nr.2.1 nn.2.1 fun j g hj hg a ha hag => ?_, fun a ha b hb e => ?_⟩, fun a ha b hb e => ?_⟩
    · exact fresh a (r.live a (List.mem_append_right _ (mem_flatten_get hg hag))) (others j g hj hg a hag) (List.mem_append_right _ ha)
    · subst e
      rcases flatten_set_sub hb with z | z
      · exact fresh a (r.live a (List.mem_append_left _ ha)) (exf a ha) (List.mem_append_right _ z)
      · exact nr.2.2 a ha a z rfl
    · subst e
      rcases List.mem_append.mp hb with z | z
      · exact fresh a (r.live a (List.mem_append_left _ z)) (exf a z) (List.mem_append_left _ ha)
      · obtain ⟨g, hg, hag⟩ := List.mem_flatten.mp z
        obtain ⟨j, hj⟩ := List.getElem?_of_mem hg
        by_cases hji : j = i
        · subst hji
          rw [List.getElem?_set_self (by rw [r.lf]; exact hil)] at hj
          cases hj
          exact nn.2.2 a ha a hag rfl
        · rw [List.getElem?_set_ne (Ne.symm hji)] at hj
          exact fresh a (r.live a (List.mem_append_right _ (mem_flatten_get hj hag))) (others j g hji hj a hag) (List.mem_append_left _ ha)
  · rcases split a ha with z | ⟨lv, nf, z⟩
    · exact o a z
    · exact outF a lv nf (r.out a z)
  · rcases split a ha with z | ⟨⟨u, e⟩, nf, z⟩
    · exact l a z
    · exact ⟨u, keep a u e nf⟩
  · by_cases hj : j = i
    · subst hj
      rw [List.getElem?_set_self hil] at e
      cases e
      refine ⟨v, f', hv, by rw [List.getElem?_set_self (by rw [r.lf]; exact hil)], ?_⟩
      rw [hm]; exact own
    · rw [List.getElem?_set_ne (Ne.symm hj)] at e
      obtain ⟨v', g, e1, e2, h⟩ := r.slot j d e
      refine ⟨v', g, e1, by rw [List.getElem?_set_ne (Ne.symm hj)]; exact e2, ?_⟩
      refine h.go x.e1 (fun a ha u e => keep a u e (others j g hj e2 a ha)) (fun a u e n => keep a u e fun z => n (List.mem_append_right _ (hU a z))) fun a ha ⟨u, e⟩ => ?_
      rcases split a ha with z | ⟨_, _, z⟩
      · rcases x.e4 a z with q | q
        · exact List.mem_append_right _ (hU a q)
        · rw [q] at e; cases e
      · exact z

/-! ### what a callee wants -/
/-- io: the one owned parameter and the name that is lent for it -/
def okP (G : List Md) (io : Option (Nat × Nat)) : Nat → List Md → List (Option Nat) → Bool
  | _, [], [] => true
  | j, .fz :: ms, none :: Bs => okP G io (j + 1) ms Bs
  | j, .fz :: ms, some i :: Bs => decide (G.getD i .fz = .fz) && okP G io (j + 1) ms Bs
  | j, .bo :: ms, none :: Bs => okP G io (j + 1) ms Bs
  | j, .bo :: ms, some i :: Bs => okB G (some i) && (match io with | some (_, i') => i != i' | none => true) && okP G io (j + 1) ms Bs
  | j, .ow k :: ms, some i :: Bs => decide (G.getD i .fz = .ow k) && decide (io = some (j, i)) && okP G io (j + 1) ms Bs
  | _, _, _ => false
theorem okP_get {io : Option (Nat × Nat)} : ∀ {ms : List Md} {Bs : List (Option Nat)} {j l : Nat}, okP G io j ms Bs = true → ms.length = Bs.length ∧ ∀ B, Bs[l]? = some B → match ms.getD l .fz, B with
    | .fz, none => True
    | .fz, some i => G.getD i .fz = .fz
    | .bo, none => True
    | .bo, some i => okB G (some i) = true ∧ ∀ j' i', io = some (j', i') → i ≠ i'
    | .ow k, some i => G.getD i .fz = .ow k ∧ io = some (j + l, i)
    | .ow _, none => False
  | [], [], _, _, _ => ⟨rfl, fun B e => by simp at e⟩
  | .fz :: ms, none :: Bs, j, l, h => by
    obtain ⟨a, b⟩ := okP_get (ms := ms) (Bs := Bs) (j := j + 1) (l := l - 1) (by simpa [okP] using h)
    refine ⟨by simp [a], fun B e => ?_⟩
    cases l with
    | zero => simp at e; subst e; trivial
    | succ l =>
      have z := b B (by simpa using e)
      simp only [Nat.add_sub_cancel] at z
      rw [show j + 1 + l = j + (l + 1) by omega] at z
      simpa using z
  | .fz :: ms, some i :: Bs, j, l, h => by
    simp only [okP, Bool.and_eq_true, decide_eq_true_eq] at h
    obtain ⟨a, b⟩ := okP_get (ms := ms) (Bs := Bs) (j := j + 1) (l := l - 1) h.2
    refine ⟨by simp [a], fun B e => ?_⟩
    cases l with
    | zero => simp at e; subst e; exact h.1
    | succ l =>
      have z := b B (by simpa using e)
      simp only [Nat.add_sub_cancel] at z
      rw [show j + 1 + l = j + (l + 1) by omega] at z
      simpa using z
  | .bo :: ms, none :: Bs, j, l, h => by
    obtain ⟨a, b⟩ := okP_get (ms := ms) (Bs := Bs) (j := j + 1) (l := l - 1) (by simpa [okP] using h)
    refine ⟨by simp [a], fun B e => ?_⟩
    cases l with
    | zero => simp at e; subst e; trivial
    | succ l =>
      have z := b B (by simpa using e)
      simp only [Nat.add_sub_cancel] at z
      rw [show j + 1 + l = j + (l + 1) by omega] at z
      simpa using z
  | .bo :: ms, some i :: Bs, j, l, h => by
    simp only [okP, Bool.and_eq_true] at h
    obtain ⟨a, b⟩ := okP_get (ms := ms) (Bs := Bs) (j := j + 1) (l := l - 1) h.2
    refine ⟨by simp [a], fun B e => ?_⟩
    cases l with
    | zero =>
      simp at e; subst e
      refine ⟨h.1.1, fun j' i' e => ?_⟩
      have z := h.1.2
      rw [e] at z
      simpa using z
    | succ l =>
      have z := b B (by simpa using e)
      simp only [Nat.add_sub_cancel] at z
      rw [show j + 1 + l = j + (l + 1) by omega] at z
      simpa using z
  | .ow k :: ms, some i :: Bs, j, l, h => by
    simp only [okP, Bool.and_eq_true, decide_eq_true_eq] at h
    obtain ⟨a, b⟩ := okP_get (ms := ms) (Bs := Bs) (j := j + 1) (l := l - 1) h.2
    refine ⟨by simp [a], fun B e => ?_⟩
    cases l with
    | zero => simp at e; subst e; exact ⟨h.1.1, by simpa using h.1.2⟩
    | succ l =>
      have z := b B (by simpa using e)
      simp only [Nat.add_sub_cancel] at z
      rw [show j + 1 + l = j + (l + 1) by omega] at z
      simpa using z
  | .ow k :: ms, none :: Bs, _, _, h => by simp [okP] at h
  | [], _ :: _, _, _, h => by simp [okP] at h
  | _ :: _, [], _, _, h => by simp [okP] at h
def fpsC (n : Nat) (fps : List (List Addr)) : Option (Nat × Nat) → List (List Addr)
  | none => List.replicate n []
  | some (j, i) => (List.replicate n []).set j (fps.getD i [])
theorem rep_flat (n : Nat) : (List.replicate n ([] : List Addr)).flatten = [] := by induction n <;> simp_all [List.replicate_succ]
theorem set_rep_flat : ∀ (n j : Nat) (f : List Addr), j < n → ((List.replicate n ([] : List Addr)).set j f).flatten = f
  | 0, _, _, h => by omega
  | n + 1, 0, f, _ => by simp [List.replicate_succ, rep_flat]
  | n + 1, j + 1, f, h => by simp [List.replicate_succ, set_rep_flat n j f (by omega)]
/-- is the place told there an owned parameter? -/
def okIo (ms : List Md) : Option (Nat × Nat) → Bool
  | none => true
  | some (j, _) => decide (j < ms.length) && match ms.getD j .fz with | .ow _ => true | _ => false
theorem Rel.callee {ms : List Md} {Bs : List (Option Nat)} {os : List Opn} {vs : List V} {ds : List D} {io : Option (Nat × Nat)} (r : Rel C pin G F H σ ρ fps ex) (a : ArgsV C F σ Bs os vs) (e : resL ρ os = some ds) (k : okP G io 0 ms Bs = true) (ko : okIo ms io = true) :
    vs.length = ms.length ∧ Rel C [] ms F H (vs.map some) (ds.map some) (fpsC ms.length fps io) [] ∧ (fpsC ms.length fps io).flatten = (match io with | none => [] | some (_, i) => fps.getD i []) := by
  obtain ⟨l1, l2⟩ := a.lens
  have l3 := (okP_get (l := 0) k).1
  have l4 := resL_len e
  have nr := List.nodup_append.mp r.nd
  have flat : (fpsC ms.length fps io).flatten = (match io with | none => [] | some (_, i) => fps.getD i []) := by
    cases io with
    | none => exact rep_flat _
    | some p =>
      obtain ⟨j, i⟩ := p
      have : j < ms.length := by simp only [okIo, Bool.and_eq_true, decide_eq_true_eq] at ko; exact ko.1
      exact set_rep_flat _ _ _ this
  have sub : ∀ a ∈ (fpsC ms.length fps io).flatten, a ∈ fps.flatten := fun a ha => by
    rw [flat] at ha
    cases io with
    | none => cases ha
    | some p =>
      obtain ⟨j, i⟩ := p
      have ha : a ∈ fps.getD i [] := ha
      rw [List.getD_eq_getElem?_getD] at ha
      cases q : fps[i]? with
      | none => rw [q] at ha; cases ha
      | some f => rw [q] at ha; exact mem_flatten_get q ha
  have nd : (fpsC ms.length fps io).flatten.Nodup := by
    rw [flat]
    cases io with
    | none => exact List.nodup_nil
    | some p =>
      obtain ⟨j, i⟩ := p
      show (fps.getD i []).Nodup
      rw [List.getD_eq_getElem?_getD]
      cases q : fps[i]? with
      | none => exact List.nodup_nil
      | some f => exact part_nodup nr.2.1 q
  have lenF : (fpsC ms.length fps io).length = ms.length := by
    cases io with
    | none => simp [fpsC]
    | some p => simp [fpsC]
  refine ⟨by omega, ⟨r.sub, r.tups, by simp; omega, by rw [lenF]; simp; omega, by simp; omega, nd, fun a ha => r.out a (List.mem_append_right _ (sub a ha)), fun a ha => r.live a (List.mem_append_right _ (sub a ha)), fun l d e' => ?_, fun p hp => nomatch hp⟩, flat⟩
  have hl : l < ds.length := by
    have := (List.getElem?_eq_some_iff.mp e').1
    simpa using this
  have e2 : ds[l]? = some d := by
    rw [List.getElem?_map] at e'
    cases q : ds[l]? with
    | none => rw [q] at e'; cases e'
    | some d' => rw [q] at e'; cases e'; rfl
  obtain ⟨o, ho, hres⟩ := resL_get e e2
  obtain ⟨B, v, hB, hv, op⟩ := a.get ho
  have kk := (okP_get (l := l) k).2 B hB
  have vv : (vs.map some)[l]? = some (some v) := by rw [List.getElem?_map, hv]; rfl
  have fn : ∀ (h : ∀ q, ms.getD l .fz ≠ .ow q), (fpsC ms.length fps io)[l]? = some [] := fun h => by
    cases io with
    | none => rw [fpsC, List.getElem?_replicate, if_pos (by omega)]
    | some p =>
      obtain ⟨j, i⟩ := p
      have hj : j ≠ l := by
        rintro rfl
        simp only [okIo, Bool.and_eq_true] at ko
        have z := ko.2
        revert z
        cases q : ms.getD j .fz with
        | fz => intro z; cases z
        | bo => intro z; cases z
        | ow q' => exact absurd q (h q')
      rw [fpsC, List.getElem?_set_ne hj, List.getElem?_replicate, if_pos (by omega)]
  cases hm : ms.getD l .fz with
  | fz =>
    rw [hm] at kk
    refine ⟨v, [], vv, fn (fun q z => by rw [hm] at z; cases z), rfl, ?_⟩
    cases o with
    | val d' => cases hres; exact op.2
    | bor i =>
      obtain ⟨rfl, hs⟩ := op
      obtain ⟨v', e5, z⟩ := r.fzv (join_some hres) kk
      rw [hs] at e5; cases e5
      exact z
  | bo =>
    rw [hm] at kk
    refine ⟨v, [], vv, fn (fun q z => by rw [hm] at z; cases z), rfl, ?_⟩
    cases o with
    | val d' => cases hres; exact .inl op.2
    | bor i =>
      obtain ⟨rfl, hs⟩ := op
      obtain ⟨k1, k2⟩ := kk
      obtain ⟨v', f, e5, e6, z⟩ := r.slot i d (join_some hres)
      rw [hs] at e5; cases e5
      cases hg : G.getD i .fz with
      | fz => rw [hg] at z; exact .inl z.2
      | bo =>
        rw [hg] at z
        rcases z.2 with z | ⟨g, z, n⟩
        · exact .inl z
        · exact .inr ⟨g, z, fun a ha hz => n a ha (List.mem_append_right _ (sub a hz))⟩
      | ow q =>
        rw [hg] at z
        cases q with
        | succ q => simp only [okB, hg] at k1; cases k1
        | zero =>
          refine .inr ⟨f, z, fun a ha hz => ?_⟩
          have hz : a ∈ (fpsC ms.length fps io).flatten := hz
          rw [flat] at hz
          cases io with
          | none => cases hz
          | some p =>
            obtain ⟨j, i'⟩ := p
            have hz : a ∈ fps.getD i' [] := hz
            rw [List.getD_eq_getElem?_getD] at hz
            cases q : fps[i']? with
            | none => rw [q] at hz; cases hz
            | some f' =>
              rw [q] at hz
              exact apart_parts nr.2.1 (k2 j i' rfl) e6 q ha hz
  | ow q =>
    rw [hm] at kk
    cases B with
    | none => exact kk.elim
    | some i =>
      obtain ⟨k1, k2⟩ := kk
      cases o with
      | val d' => cases op.1
      | bor i2 =>
        obtain ⟨eB, hs⟩ := op
        cases eB
        obtain ⟨v', f, e5, e6, z⟩ := r.slot i d (join_some hres)
        rw [hs] at e5; cases e5
        rw [k1] at z
        refine ⟨v, f, vv, ?_, z⟩
        subst k2
        have : (0 + l) = l := by omega
        rw [this, fpsC, List.getElem?_set_self (by simp; omega), List.getD_eq_getElem?_getD, e6]; rfl
end
end DM
end
section
set_option autoImplicit false
set_option Elab.async false
set_option linter.all false
set_option maxRecDepth 100000
set_option maxHeartbeats 4000000
/-! DM8: the calls' rules: defs, methods, classes. -/
namespace DM
open PySem PySem.Spec PyProof.Rows L2

def backR : Option (Nat × Nat) → R D → DEnv → R D
  | none, .ok d _, ρ => .ok d ρ
  | none, .ex c ns vs _, ρ => .ex c ns vs ρ
  | some (j, i), .ok d ρo, ρ => (match (ρo[j]?).join with
    | some d' => .ok d (ρ.set i (some d'))
    | none => .bad)
  | some (j, i), .ex c ns vs ρo, ρ => (match (ρo[j]?).join with
    | some d' => .ex c ns vs (ρ.set i (some d'))
    | none => .bad)
  | _, .bad, _ => .bad
def callB (g : Sig) (io : Option (Nat × Nat)) (os : List Opn) : M D := fun ρ => match resL ρ os with
  | some ds => backR io (g.m ds) ρ
  | none => .bad
def callM (g : Sig) (io : Option (Nat × Nat)) (m : M (List Opn)) : M D := bindM m (callB g io)
def rrOf (C : Cl) (rk : Option Nat) : RRel D V := fun d _ F H _ v fp => RetR C rk F H d v fp

section
variable {T : Ct} {G G1 G2 G' : List Md} {F F1 F' H H1 H' : Hp} {U U1 : List Addr} {σ : Sl} {ρ : DEnv} {fps fps1 : List (List Addr)} {ex : List Addr} {C : Cl} {pin : List (Nat × V)}
theorem call_core {g : Sig} {io : Option (Nat × Nat)} {Bs : List (Option Nat)} {os : List Opn} {vs : List V} {Q : VK} (r : Rel T.C T.pin G F H σ ρ fps ex) (a : ArgsV T.C F σ Bs os vs) (k : okP G io 0 g.ms Bs = true) (ko : okIo g.ms io = true) (hgx : leG T.gx G = true)
    (m : Rem T G (rrOf T.C g.rk) (callB g io os ρ) F H fps ex σ Q) : spOf T.C g vs H Q (WE T.W σ) := by
  unfold callB at m
  cases e : resL ρ os with
  | none => rw [e] at m; exact m.elim
  | some ds =>
    rw [e] at m
    dsimp only at m
    obtain ⟨hl, rc, flat⟩ := r.callee a e k ko
    refine ⟨hl, F, ds, _, rc, ?_⟩
    cases io with
    | none =>
      have flat : (fpsC g.ms.length fps none).flatten = [] := flat
      rw [flat]
      cases q : g.m ds with
      | ok d ρo =>
        rw [q] at m
        intro v F' H' fps' fp x r' z
        have n := List.nodup_append.mp r'.nd
        obtain ⟨x2, r2⟩ := r.after0 (fp := fp) (x.less fun a ha => List.mem_append_left _ ha) r'.sub r'.tups n.1 (fun a ha => r'.out a (List.mem_append_left _ ha)) fun a ha => r'.live a (List.mem_append_left _ ha)
        exact Rem.fin (rr := rrOf T.C g.rk) m x2 r2 z
      | ex c ns xs ρo =>
        rw [q] at m
        intro cls dx F' H' fps' x r' z
        obtain ⟨x2, r2⟩ := r.after0 (fp := []) (x.less fun a ha => nomatch ha) r'.sub r'.tups List.nodup_nil (fun a ha => nomatch ha) fun a ha => nomatch ha
        obtain ⟨F2, fps2, x3, r3⟩ := r2.weak_ex.weaken hgx
        exact m cls dx F2 H' fps2 (x2.trans x3) r3 (by
          obtain ⟨A, h1, h2, h3⟩ := z
          refine ⟨A, h1, h2, h3.imp_right ?_⟩
          rintro ⟨a, xs', h4, h5, h6, h7⟩
          exact ⟨a, xs', h4, x3.e1 _ _ h5, RepL.mono x3.e1 _ _ h6, h7⟩)
      | bad => rw [q] at m; exact m.elim
    | some p =>
      obtain ⟨j, i⟩ := p
      have flat : (fpsC g.ms.length fps (some (j, i))).flatten = fps.getD i [] := flat
      rw [flat]
      have ko' := ko
      simp only [okIo, Bool.and_eq_true, decide_eq_true_eq] at ko'
      obtain ⟨hj, kow⟩ := ko'
      have hB : ∃ B, Bs[j]? = some B := ⟨_, List.getElem?_eq_getElem (by rw [← (okP_get (l := 0) k).1]; exact hj)⟩
      obtain ⟨B, hB⟩ := hB
      have kk := (okP_get (l := j) k).2 B hB
      cases hm : g.ms.getD j .fz with
      | fz => rw [hm] at kow; cases kow
      | bo => rw [hm] at kow; cases kow
      | ow n =>
        rw [hm] at kk
        cases B with
        | none => exact kk.elim
        | some i2 =>
          obtain ⟨kG, kio⟩ := kk
          have e0 : i = i2 := by simpa using kio
          subst e0
          obtain ⟨l1, l2⟩ := a.lens
          have lj : j < os.length := by
            have := (List.getElem?_eq_some_iff.mp hB).1
            omega
          have ho : os[j]? = some os[j] := List.getElem?_eq_getElem lj
          obtain ⟨B', v0, hB', hv0, op⟩ := a.get ho
          rw [hB] at hB'; cases hB'
          have lds : j < ds.length := by rw [resL_len e]; exact lj
          obtain ⟨o', ho', hres⟩ := resL_get e (List.getElem?_eq_getElem lds)
          rw [ho] at ho'; cases ho'
          have op2 : σ[i]? = some (some v0) ∧ ∃ d0, ρ[i]? = some (some d0) := by
            cases q : os[j] with
            | val d' => rw [q] at op; cases op.1
            | bor i3 =>
              rw [q] at op hres
              obtain ⟨eB, hs⟩ := op
              cases eB
              exact ⟨hs, _, join_some hres⟩
          obtain ⟨hs, d0, hd0⟩ := op2
          obtain ⟨v1, f, e5, e6, _⟩ := r.slot i d0 hd0
          have ef : fps.getD i [] = f := by rw [List.getD_eq_getElem?_getD, e6]; rfl
          rw [ef]
          have back : ∀ {F' H' : Hp} {fps' : List (List Addr)} {fp : List Addr} {ρo : DEnv} {d' : D}, Ext F H f F' H' (fp ++ fps'.flatten) → Rel T.C [] g.ms F' H' (vs.map some) ρo fps' fp → (ρo[j]?).join = some d' →
              ∃ f', Ext F H fps.flatten F' H' (fp ++ (fps.set i f').flatten) ∧ Rel T.C T.pin G F' H' σ (ρ.set i (some d')) (fps.set i f') (fp ++ ex) := fun {F' H' fps' fp ρo d'} x r' e' => by
            obtain ⟨v2, f', e7, e8, z⟩ := r'.slot j d' (join_some e')
            rw [hm] at z
            have ev : v2 = v0 := by
              rw [List.getElem?_map, hv0] at e7
              cases e7; rfl
            subst ev
            have n := List.nodup_append.mp r'.nd
            have sub : ∀ a ∈ fp ++ f', a ∈ fp ++ fps'.flatten := fun a ha => (List.mem_append.mp ha).elim (fun q => List.mem_append_left _ q) fun q => List.mem_append_right _ (mem_flatten_get e8 q)
            have res := r.afterIo (fp := fp) e6 kG hs (x.less sub) r'.sub r'.tups (List.nodup_append.mpr ⟨n.1, part_nodup n.2.1 e8, fun a ha b hb => n.2.2 a ha b (mem_flatten_get e8 hb)⟩) (fun a ha => r'.out a (sub a ha)) (fun a ha => r'.live a (sub a ha)) z
            exact ⟨f', res.1, res.2⟩
          cases q : g.m ds with
          | ok d ρo =>
            rw [q] at m
            intro v F' H' fps' fp x r' z
            simp only [backR] at m
            cases q2 : (ρo[j]?).join with
            | none => rw [q2] at m; exact m.elim
            | some d' =>
              rw [q2] at m
              obtain ⟨f', x2, r2⟩ := back x r' q2
              exact Rem.fin (rr := rrOf T.C g.rk) m x2 r2 z
          | ex c ns xs ρo =>
            rw [q] at m
            intro cls dx F' H' fps' x r' z
            simp only [backR] at m
            cases q2 : (ρo[j]?).join with
            | none => rw [q2] at m; exact m.elim
            | some d' =>
              rw [q2] at m
              obtain ⟨f', x2, r2⟩ := back (fp := []) x r' q2
              have hgx' : leG T.gx G = true := hgx
              obtain ⟨F2, fps2, x3, r3⟩ := r2.weak_ex.weaken hgx'
              exact m cls dx F2 H' fps2 (x2.trans x3) r3 (by
                obtain ⟨A, h1, h2, h3⟩ := z
                refine ⟨A, h1, h2, h3.imp_right ?_⟩
                rintro ⟨a, xs', h4, h5, h6, h7⟩
                exact ⟨a, xs', h4, x3.e1 _ _ h5, RepL.mono x3.e1 _ _ h6, h7⟩)
          | bad => rw [q] at m; exact m.elim
/-- a def of the text that keeps its promise, by its name -/
structure FnS (P : Program) (w : World) (K : PySem.W.Frag) (mg : Str → Option Value) (base : Heap) (C : Cl) (x : Str) (k : Nat) (g : Sig) : Prop where
  ex : ∃ (f : Addr) (fd : FuncData) (ps : List Str), mg x = some (.ref f) ∧ FnG P w K mg base (L2.CX P w) k f fd ps (spOf C g) ∧ PySem.W.keepIn K (.ref f) = true ∧ Binds K fd ps []
theorem px_call {g : Sig} {io : Option (Nat × Nat)} {Bs : List (Option Nat)} {x : Str} {k : Nat} {p pos : Pos} {e : Expr} {es : List Expr} {m : M (List Opn)} (ok : T.Ok) (f : FnS T.X.prog T.X.w T.X.K T.X.mg T.X.base T.C x k g) (hr : RoomG k T.X.A) (hg : Gl T.X x)
    (ha : SA T G (e :: es) Bs G' m) (ho : okP G' io 0 g.ms Bs = true) (hio : okIo g.ms io = true) (hgx : leG T.gx G' = true) (hdb : (x == ("__debug__" : Str)) = false := by decide) (he : starEach (e :: es) T.X.env = (false, eval e T.X.env) :: starEach es T.X.env := by rfl) (hpl : (backTo pos (starEach es T.X.env)).any (·.1) = false := by rfl) :
    PE T.X (.Call (.Name x p) (e :: es) [] pos) (tG T G G' (rrOf T.C g.rk) (callM g io m)) := by
  obtain ⟨fa, fd, ps, hm, F, hk, hb⟩ := f.ex
  refine PEimp (pe_callG (E := WE T.W) F hr hg hm hk hb .nil (fun σ => passAt ok.tk σ) ha hdb he hpl) fun σ H Q ⟨F0, ρ, fps, ex, r0, m0⟩ => ?_
  refine seqR r0 m0 fun os vs F1 H1 ρ1 fps1 fp1 e1 r1 z1 m1 => ?_
  obtain ⟨rfl, z1⟩ := z1
  rw [List.append_nil]
  exact call_core r1 z1 ho hio hgx m1
theorem sv_call {g : Sig} {io : Option (Nat × Nat)} {Bs : List (Option Nat)} {x : Str} {k : Nat} {p pos : Pos} {e : Expr} {es : List Expr} {m : M (List Opn)} (ok : T.Ok) (f : FnS T.X.prog T.X.w T.X.K T.X.mg T.X.base T.C x k g) (hr : RoomG k T.X.A) (hg : Gl T.X x)
    (ha : SA T G (e :: es) Bs G' m) (ho : okP G' io 0 g.ms Bs = true) (hio : okIo g.ms io = true) (hgx : leG T.gx G' = true) (hk : g.rk = none) (hdb : (x == ("__debug__" : Str)) = false := by decide) (he : starEach (e :: es) T.X.env = (false, eval e T.X.env) :: starEach es T.X.env := by rfl) (hpl : (backTo pos (starEach es T.X.env)).any (·.1) = false := by rfl) :
    SV T G (.Call (.Name x p) (e :: es) [] pos) G' (callM g io m) := by
  have h := px_call ok f hr hg ha ho hio hgx hdb he hpl (p := p) (pos := pos)
  rw [hk] at h
  exact h
theorem sf_call {g : Sig} {io : Option (Nat × Nat)} {Bs : List (Option Nat)} {x : Str} {k n : Nat} {p pos : Pos} {e : Expr} {es : List Expr} {m : M (List Opn)} (ok : T.Ok) (f : FnS T.X.prog T.X.w T.X.K T.X.mg T.X.base T.C x k g) (hr : RoomG k T.X.A) (hg : Gl T.X x)
    (ha : SA T G (e :: es) Bs G' m) (ho : okP G' io 0 g.ms Bs = true) (hio : okIo g.ms io = true) (hgx : leG T.gx G' = true) (hk : g.rk = some n) (hdb : (x == ("__debug__" : Str)) = false := by decide) (he : starEach (e :: es) T.X.env = (false, eval e T.X.env) :: starEach es T.X.env := by rfl) (hpl : (backTo pos (starEach es T.X.env)).any (·.1) = false := by rfl) :
    SF T G (.Call (.Name x p) (e :: es) [] pos) n G' (callM g io m) := by
  have h := px_call ok f hr hg ha ho hio hgx hdb he hpl (p := p) (pos := pos)
  rw [hk] at h
  exact h
end
end DM
end
section
set_option autoImplicit false
set_option Elab.async false
set_option linter.all false
set_option maxRecDepth 100000
set_option maxHeartbeats 4000000
/-! DM9: arithmetic, +, subscripts, slices, built-ins of one value. -/
namespace DM
open PySem PySem.Spec PyProof.Rows L2

section
variable {C : Cl} {F H H' : Hp}
theorem Opd.non {x : V} (h : Opd C F H .non x) : x = .non := by
  rcases h with h | ⟨g, h⟩
  · unfold Rep at h; exact h
  · have := h.2; unfold Rep at this; exact this
theorem Opd.bl {b : Bool} {x : V} (h : Opd C F H (.bl b) x) : x = .bl b := by
  rcases h with h | ⟨g, h⟩
  · unfold Rep at h; exact h
  · have := h.2; unfold Rep at this; exact this
theorem Opd.int {b : Int} {x : V} (h : Opd C F H (.int b) x) : x = .int b := by
  rcases h with h | ⟨g, h⟩
  · unfold Rep at h; exact h
  · have := h.2; unfold Rep at this; exact this
theorem Opd.str {b : Str} {x : V} (h : Opd C F H (.str b) x) : x = .str b ∧ b.length ≤ sizeLine ∧ PyData.strOk b = true := by
  rcases h with h | ⟨g, h⟩
  · unfold Rep at h; exact h
  · have := h.2; unfold Rep at this; exact this
theorem Opd.lst {ds : List D} {x : V} (s : Sub F H) (h : Opd C F H (.lst ds) x) : ∃ a xs, x = .ref a ∧ H a = some (.lst xs) ∧ RepL C F ds xs ∧ ds.length ≤ sizeLine := by
  rcases h with h | ⟨g, h⟩
  · unfold Rep at h
    obtain ⟨a, xs, e, h1, h2, h3⟩ := h
    exact ⟨a, xs, e, s _ _ h1, h2, h3⟩
  · obtain ⟨a, xs, g', e1, e2, e3, h1, z⟩ := h
    exact ⟨a, xs, e1, e3, (OwnL.to_rep h1).1, z⟩
theorem Opd.tupR {ds : List D} {x : V} (h : Opd C F H (.tup ds) x) : Rep C F (.tup ds) x := by
  rcases h with h | ⟨g, a, xs, e1, e3, h1, z⟩
  · exact h
  · unfold Rep; exact ⟨a, xs, e1, e3, (OwnL.to_rep h1).1, z⟩
theorem Opd.tup {ds : List D} {x : V} (s : Sub F H) (h : Opd C F H (.tup ds) x) : ∃ a xs, x = .ref a ∧ H a = some (.tup xs) ∧ RepL C F ds xs ∧ ds.length ≤ sizeLine := by
  have h := h.tupR
  unfold Rep at h
  obtain ⟨a, xs, e, h1, h2, h3⟩ := h
  exact ⟨a, xs, e, s _ _ h1, h2, h3⟩
theorem Opd.tpxR {ds : List D} {x : V} (h : Opd C F H (.tpx ds) x) : Rep C F (.tpx ds) x := by
  rcases h with h | ⟨g, h⟩
  · exact h
  · exact h.2
theorem Opd.tpx {ds : List D} {x : V} (s : Sub F H) (h : Opd C F H (.tpx ds) x) : ∃ a o xs, x = .ref a ∧ H a = some (.frz o (.tup xs)) ∧ (o.cls = .type "tuple" ∧ o.dict = none) ∧ RepL C F ds xs ∧ ds.length ≤ sizeLine := by
  have h := h.tpxR
  unfold Rep at h
  obtain ⟨a, o, xs, e, h1, h0, h2, h3⟩ := h
  exact ⟨a, o, xs, e, s _ _ h1, h0, h2, h3⟩
theorem sqT_fz {K : PySem.W.Frag} {H : Hp} {a : Addr} {o : Obj} {xs : List V} (h : H a = some (.frz o (.tup xs))) : SqT K H a xs := .inl (.inr ⟨o, h⟩)
theorem Opd.dic {ks : List Key} {ds : List D} {x : V} (s : Sub F H) (h : Opd C F H (.dic ks ds) x) : ∃ a xs, x = .ref a ∧ Rd H a (.dK (ks.zip xs)) ∧ RepL C F ds xs ∧ ks.length = ds.length ∧ ds.length ≤ sizeLine := by
  rcases h with h | ⟨g, h⟩
  · unfold Rep at h
    obtain ⟨a, xs, e, h1, h2, h3⟩ := h
    exact ⟨a, xs, e, s.rd h1, h2, h3⟩
  · obtain ⟨a, xs, g', e1, e2, e3, h1, z⟩ := h
    exact ⟨a, xs, e1, .inl e3, (OwnL.to_rep h1).1, z⟩
theorem Opd.dct {ks : List (List Key)} {ds : List D} {x : V} (s : Sub F H) (h : Opd C F H (.dct ks ds) x) : ∃ a xs, x = .ref a ∧ Rd H a (.dT (ks.zip xs)) ∧ RepL C F ds xs ∧ ks.length = ds.length ∧ ds.length ≤ sizeLine := by
  rcases h with h | ⟨g, h⟩
  · unfold Rep at h
    obtain ⟨a, xs, e, h1, h2, h3⟩ := h
    exact ⟨a, xs, e, s.rd h1, h2, h3⟩
  · obtain ⟨a, xs, g', e1, e2, e3, h1, z⟩ := h
    exact ⟨a, xs, e1, .inl e3, (OwnL.to_rep h1).1, z⟩
theorem Opd.obj {c : String} {ns : List Str} {ds : List D} {x : V} (s : Sub F H) (h : Opd C F H (.obj c ns ds) x) : ∃ a A dx xs, x = .ref a ∧ C.cl c = some A ∧ H a = some (.ins A dx (ns.zip xs)) ∧ RepL C F ds xs ∧ ns.length = ds.length := by
  rcases h with h | ⟨g, h⟩
  · unfold Rep at h
    obtain ⟨a, A, dx, xs, e, h0, h1, h2, h3⟩ := h
    exact ⟨a, A, dx, xs, e, h0, s _ _ h1, h2, h3⟩
  · obtain ⟨a, A, dx, xs, g', e1, e2, e0, e3, h1, z⟩ := h
    exact ⟨a, A, dx, xs, e1, e0, e3, (OwnL.to_rep h1).1, z⟩
theorem Opd.scr {ns : List Int} {x : V} (s : Sub F H) (h : Opd C F H (.scr ns) x) : ∃ a, x = .ref a ∧ SqL C.K H a (ns.map V.int) ∧ ns.length ≤ sizeLine := by
  have go : Rep C F (.scr ns) x → ∃ a, x = .ref a ∧ SqL C.K H a (ns.map V.int) ∧ ns.length ≤ sizeLine := fun h => by
    unfold Rep at h
    obtain ⟨a, e, h1⟩ := h
    exact ⟨a, e, s.sqL h1.1, h1.2⟩
  rcases h with h | ⟨g, h⟩
  · exact go h
  · exact go h.2
theorem rep_int {i : Int} : Rep C F (.int i) (.int i) := by unfold Rep; rfl
theorem rep_bl {i : Bool} : Rep C F (.bl i) (.bl i) := by unfold Rep; rfl
theorem rep_non : Rep C F .non .non := by unfold Rep; rfl
theorem rep_str {i : Str} (h : i.length ≤ sizeLine) (k : PyData.strOk i = true) : Rep C F (.str i) (.str i) := by unfold Rep; exact ⟨rfl, h, k⟩
end

/-! ### + -/
def addD : D → D → Option D
  | .int i, .int j => some (.int (i + j))
  | .str a, .str b => if a.length + b.length ≤ sizeLine then some (.str (a ++ b)) else none
  | .lst a, .lst b => if a.length + b.length ≤ sizeLine then some (.lst (a ++ b)) else none
  | .tup a, .tup b => if a.length + b.length ≤ sizeLine then some (.tup (a ++ b)) else none
  | _, _ => none
def rAddA (K : PySem.W.Frag) : R2 := fun x y H Q => ((rI0 fun i j => .int (i + j)) x y H Q ∨ (∃ i j, x = .str i ∧ y = .str j ∧ i.length + j.length ≤ sizeLine ∧ Q (.str (i ++ j)) H)) ∨ (rCat x y H Q ∨ rCatA K x y H Q)
theorem op_addA {X : Cx} : OpR X (binaryOp .Add) (rAddA X.K) := OpR.or (OpR.or op_add op_add_str) (OpR.or op_cat op_catA)
theorem str_app_len (a b : Str) : (a ++ b).length = a.length + b.length := by
  show (a.cps ++ b.cps).size = _
  rw [Array.size_append]; rfl
theorem strOk_mem {a : Str} : PyData.strOk a = true ↔ ∀ c ∈ a.cps.toList, c < 0x110000 := by
  unfold PyData.strOk
  rw [← Array.all_toList, List.all_eq_true]
  simp
theorem strOk_app {a b : Str} (ha : PyData.strOk a = true) (hb : PyData.strOk b = true) : PyData.strOk (a ++ b) = true := by
  rw [strOk_mem] at *
  intro c hc
  have e : (a ++ b).cps.toList = a.cps.toList ++ b.cps.toList := by show (a.cps ++ b.cps).toList = _; simp
  rw [e] at hc
  rcases List.mem_append.mp hc with h | h
  · exact ha c h
  · exact hb c h
theorem prim_add {C : Cl} : Prim2 C (rAddA C.K) addD := by
  intro F H d1 d2 d x y Q s h1 h2 e q
  cases d1 <;> cases d2 <;> simp only [addD, reduceCtorEq, Option.some.injEq] at e
  case int.int i j =>
    subst e
    rw [h1.int, h2.int]
    exact .inl (.inl ⟨i, j, rfl, rfl, q _ _ _ _ (NewOk.plain rfl rep_int)⟩)
  case str.str i j =>
    split at e
    case isTrue hz =>
      cases e
      rw [h1.str.1, h2.str.1]
      exact .inl (.inr ⟨i, j, rfl, rfl, hz, q _ _ _ _ (NewOk.plain rfl (rep_str (by rw [str_app_len]; exact hz) (strOk_app h1.str.2.2 h2.str.2.2)))⟩)
    case isFalse => cases e
  case lst.lst a b =>
    split at e
    case isTrue hz =>
      cases e
      obtain ⟨p, xs, rfl, e1, r1, z1⟩ := h1.lst s
      obtain ⟨p', ys, rfl, e2, r2, z2⟩ := h2.lst s
      have l1 := r1.length
      have l2 := r2.length
      refine .inr (.inl ⟨p, p', xs, ys, rfl, rfl, e1, e2, by omega, fun n hn => q _ _ _ _ (NewOk.lst hn (r1.append r2) (by rw [List.length_append]; exact hz))⟩)
    case isFalse => cases e
  case tup.tup a b =>
    split at e
    case isTrue hz =>
      cases e
      obtain ⟨p, xs, rfl, e1, r1, z1⟩ := h1.tup s
      obtain ⟨p', ys, rfl, e2, r2, z2⟩ := h2.tup s
      have l1 := r1.length
      have l2 := r2.length
      refine .inr (.inr ⟨p, p', xs, ys, rfl, rfl, SqT.of e1, SqT.of e2, by omega, fun he => ?_, fun hx hy => ?_, fun _ _ n hn => q _ _ _ _ (NewOk.tup s hn (r1.append r2) (by rw [List.length_append]; exact hz))⟩)
      · have ea : a = [] := List.eq_nil_of_length_eq_zero (by rw [l1, he]; rfl)
        subst ea
        exact q _ _ _ _ (NewOk.plain rfl h2.tupR)
      · have eb : b = [] := List.eq_nil_of_length_eq_zero (by rw [l2, hy]; rfl)
        subst eb
        rw [List.append_nil] at q
        exact q _ _ _ _ (NewOk.plain rfl h1.tupR)
    case isFalse => cases e

/-! ### arithmetic -/
def intD (f : Int → Int → Option Int) : D → D → Option D
  | .int i, .int j => (f i j).map .int
  | _, _ => none
def cmpD (f : Int → Int → Bool) : D → D → Option D
  | .int i, .int j => some (.bl (f i j))
  | _, _ => none
theorem prim_int {C : Cl} {P : Int → Int → Prop} {g : Int → Int → Int} {f : Int → Int → Option Int} (h : ∀ i j k, f i j = some k → P i j ∧ k = g i j) : Prim2 C (rI P fun i j => .int (g i j)) (intD f) := by
  intro F H d1 d2 d x y Q s h1 h2 e q
  cases d1 <;> cases d2 <;> simp only [intD, reduceCtorEq] at e
  case int.int i j =>
    cases ef : f i j with
    | none => rw [ef] at e; cases e
    | some k =>
      rw [ef] at e
      cases e
      obtain ⟨hp, rfl⟩ := h i j k ef
      rw [h1.int, h2.int]
      exact ⟨i, j, rfl, rfl, hp, q _ _ _ _ (NewOk.plain rfl rep_int)⟩
theorem prim_int0 {C : Cl} {g : Int → Int → Int} : Prim2 C (rI0 fun i j => .int (g i j)) (intD fun i j => some (g i j)) := by
  intro F H d1 d2 d x y Q s h1 h2 e q
  cases d1 <;> cases d2 <;> simp only [intD, reduceCtorEq] at e
  case int.int i j =>
    cases e
    rw [h1.int, h2.int]
    exact ⟨i, j, rfl, rfl, q _ _ _ _ (NewOk.plain rfl rep_int)⟩
theorem prim_cmp {C : Cl} {g : Int → Int → Bool} : Prim2 C (rI0 fun i j => .bl (g i j)) (cmpD g) := by
  intro F H d1 d2 d x y Q s h1 h2 e q
  cases d1 <;> cases d2 <;> simp only [cmpD, reduceCtorEq] at e
  case int.int i j =>
    cases e
    rw [h1.int, h2.int]
    exact ⟨i, j, rfl, rfl, q _ _ _ _ (NewOk.plain rfl rep_bl)⟩
def subD := intD fun i j => some (i - j)
def divI (i j : Int) : Option Int := if 0 < j ∧ j < 1073741824 then some (i / j) else none
def modI (i j : Int) : Option Int := if 0 < j then some (i % j) else none
def powI (i j : Int) : Option Int := if 0 ≤ j ∧ j ≤ 1000000 ∧ i.natAbs < 2 ^ 64 then some (i ^ j.toNat) else none
def mulI (i j : Int) : Option Int := if (-(2 ^ 64) < i ∧ i < 2 ^ 64) ∨ (-(2 ^ 64) < j ∧ j < 2 ^ 64) then some (i * j) else none
theorem prim_div {C : Cl} : Prim2 C (rI CDiv fun i j => .int (i / j)) (intD divI) := prim_int fun i j k h => by
  unfold divI at h; split at h
  · rename_i hc; cases h; exact ⟨hc, rfl⟩
  · cases h
theorem prim_mod {C : Cl} : Prim2 C (rI (fun _ j => 0 < j) fun i j => .int (i % j)) (intD modI) := prim_int fun i j k h => by
  unfold modI at h; split at h
  · rename_i hc; cases h; exact ⟨hc, rfl⟩
  · cases h
def mulD : D → D → Option D
  | .int i, .int j => (mulI i j).map .int
  | .lst a, .int k => if -(2 ^ 63) ≤ k ∧ k < 2 ^ 63 ∧ a.length * k.toNat ≤ sizeLine then some (.lst (List.replicate k.toNat a).flatten) else none
  | _, _ => none
theorem RepL.rep {C : Cl} {F : Hp} {ds : List D} {xs : List V} (h : RepL C F ds xs) : ∀ n : Nat, RepL C F (List.replicate n ds).flatten (List.replicate n xs).flatten
  | 0 => RepL.nil
  | n + 1 => by
    rw [List.replicate_succ, List.replicate_succ, List.flatten_cons, List.flatten_cons]
    exact h.append (RepL.rep h n)
theorem rep_flen {α : Type} (a : List α) : ∀ n : Nat, (List.replicate n a).flatten.length = a.length * n
  | 0 => by simp
  | n + 1 => by rw [List.replicate_succ, List.flatten_cons, List.length_append, rep_flen a n, Nat.mul_succ]; omega
def rMulA : R2 := fun x y H Q => (rI CMul fun i j => .int (i * j)) x y H Q ∨ rRep x y H Q
theorem op_mulA {X : Cx} : OpR X (binaryOp .Mult) rMulA := OpR.or op_mul op_rep
theorem prim_mul {C : Cl} : Prim2 C rMulA mulD := by
  intro F H d1 d2 d x y Q s h1 h2 e q
  cases d1 <;> cases d2 <;> simp only [mulD, reduceCtorEq] at e
  case int.int i j =>
    refine .inl ?_
    unfold mulI at e
    split at e
    case isTrue hc =>
      cases e
      rw [h1.int, h2.int]
      exact ⟨i, j, rfl, rfl, hc, q _ _ _ _ (NewOk.plain rfl rep_int)⟩
    case isFalse => cases e
  case lst.int a k =>
    split at e
    case isTrue hc =>
      cases e
      obtain ⟨p, xs, rfl, e1, r1, z1⟩ := h1.lst s
      rw [h2.int]
      have l1 := r1.length
      exact .inr ⟨p, k, xs, rfl, rfl, e1, hc.1, hc.2.1, by rw [← l1]; exact hc.2.2, fun n hn => q _ _ _ _ (NewOk.lst hn (r1.rep _) (by rw [rep_flen]; exact hc.2.2))⟩
    case isFalse => cases e
def negD : D → Option D
  | .int i => some (.int (-i))
  | _ => none
/-! ### == and != of data -/
mutual
def toPy : D → Option PyData
  | .non => some .none
  | .bl b => some (.bool b)
  | .int i => some (.int i)
  | .str x => some (.str x)
  | .lst ds => (toPyL ds).map .list
  | .tup ds => (toPyL ds).map .tuple
  | .tpx ds => (toPyL ds).map .tuple
  | _ => none
def toPyL : List D → Option (List PyData)
  | [] => some []
  | d :: ds => match toPy d, toPyL ds with
    | some p, some ps => some (p :: ps)
    | _, _ => none
end
mutual
theorem dp_of {C : Cl} {F : Hp} : ∀ (d : D) (v : V) (p : PyData), Rep C F d v → toPy d = some p → Dp C.K F v p ∧ p.canLay0 = true
  | .non, v, p, h, e => by unfold toPy at e; cases e; unfold Rep at h; subst h; exact ⟨.non, rfl⟩
  | .bl b, v, p, h, e => by unfold toPy at e; cases e; unfold Rep at h; subst h; exact ⟨.bl b, rfl⟩
  | .int b, v, p, h, e => by unfold toPy at e; cases e; unfold Rep at h; subst h; exact ⟨.int b, rfl⟩
  | .str b, v, p, h, e => by unfold toPy at e; cases e; unfold Rep at h; obtain ⟨rfl, _, k⟩ := h; exact ⟨.str b, by unfold PyData.canLay0; exact k⟩
  | .lst ds, v, p, h, e => by
    unfold toPy at e
    cases q : toPyL ds with
    | none => rw [q] at e; cases e
    | some ps =>
      rw [q] at e; cases e
      unfold Rep at h
      obtain ⟨a, xs, rfl, h1, h2, _⟩ := h
      obtain ⟨z1, z2⟩ := dp_ofL ds xs ps h2 q
      exact ⟨.lst (SqL.of h1) z1, by unfold PyData.canLay0; exact z2⟩
  | .tup ds, v, p, h, e => by
    unfold toPy at e
    cases q : toPyL ds with
    | none => rw [q] at e; cases e
    | some ps =>
      rw [q] at e; cases e
      unfold Rep at h
      obtain ⟨a, xs, rfl, h1, h2, _⟩ := h
      obtain ⟨z1, z2⟩ := dp_ofL ds xs ps h2 q
      exact ⟨.tup (SqT.of h1) z1, by unfold PyData.canLay0; exact z2⟩
  | .tpx ds, v, p, h, e => by
    unfold toPy at e
    cases q : toPyL ds with
    | none => rw [q] at e; cases e
    | some ps =>
      rw [q] at e; cases e
      unfold Rep at h
      obtain ⟨a, o, xs, rfl, h1, _, h2, _⟩ := h
      obtain ⟨z1, z2⟩ := dp_ofL ds xs ps h2 q
      exact ⟨.tup (sqT_fz h1) z1, by unfold PyData.canLay0; exact z2⟩
  | .dic ks vs, v, p, h, e => by unfold toPy at e; cases e
  | .dct ks vs, v, p, h, e => by unfold toPy at e; cases e
  | .obj c ks vs, v, p, h, e => by unfold toPy at e; cases e
  | .scr c, v, p, h, e => by unfold toPy at e; cases e
  | .rng b c, v, p, h, e => by unfold toPy at e; cases e
theorem dp_ofL {C : Cl} {F : Hp} : ∀ (ds : List D) (xs : List V) (ps : List PyData), RepL C F ds xs → toPyL ds = some ps → DpAll C.K F xs ps ∧ PyData.canLayAll0 ps = true
  | [], xs, ps, h, e => by unfold toPyL at e; cases e; unfold RepL at h; subst h; exact ⟨.nil, rfl⟩
  | d :: ds, xs, ps, h, e => by
    unfold toPyL at e
    unfold RepL at h
    obtain ⟨x, r, rfl, h1, h2⟩ := h
    cases q1 : toPy d with
    | none => rw [q1] at e; cases e
    | some p1 =>
      cases q2 : toPyL ds with
      | none => rw [q1, q2] at e; cases e
      | some ps1 =>
        rw [q1, q2] at e
        cases e
        obtain ⟨a1, a2⟩ := dp_of d x p1 h1 q1
        obtain ⟨b1, b2⟩ := dp_ofL ds r ps1 h2 q2
        exact ⟨.cons a1 b1, by unfold PyData.canLayAll0; rw [a2, b2]; rfl⟩
end
def eqB (d e : D) : Option Bool := match toPy d, toPy e with
  | some p, some q => if p.depth ≤ 64 ∧ q.depth ≤ 64 then some (PyData.eqv p q) else none
  | _, _ => none
def eqD (d e : D) : Option D := (eqB d e).map .bl
def neD (d e : D) : Option D := (eqB d e).map fun b => .bl (!b)
theorem shaped_of {p : PyData} (h : p.canLay0 = true) (k : p.depth ≤ 64) : SeqAt.shaped p = true := by
  unfold SeqAt.shaped; rw [h]; simp [k]
theorem prim_eqG {C : Cl} {g : Bool → Bool} : Prim2 C (fun x y H Q => ∃ d e, Dp C.K H x d ∧ Dp C.K H y e ∧ SeqAt.shaped d = true ∧ SeqAt.shaped e = true ∧ Q (.bl (g (PyData.eqv d e))) H) (fun d e => (eqB d e).map fun b => .bl (g b)) := by
  intro F H d1 d2 d x y Q s h1 h2 e q
  unfold eqB at e
  dsimp only at e
  cases q1 : toPy d1 with
  | none => rw [q1] at e; cases e
  | some p1 =>
    cases q2 : toPy d2 with
    | none => rw [q1, q2] at e; cases e
    | some p2 =>
      rw [q1, q2] at e
      dsimp only at e
      split at e
      case isTrue hc =>
        cases e
        obtain ⟨a1, a2⟩ := dp_of d1 x p1 (h1.rep s) q1
        obtain ⟨b1, b2⟩ := dp_of d2 y p2 (h2.rep s) q2
        exact ⟨p1, p2, a1, b1, shaped_of a2 hc.1, shaped_of b2 hc.2, q _ _ _ _ (NewOk.plain rfl rep_bl)⟩
      case isFalse => cases e
theorem prim_eq {C : Cl} : Prim2 C (rEqD C.K) eqD := prim_eqG (g := fun b => b)
theorem prim_ne {C : Cl} : Prim2 C (rNeD C.K) neD := prim_eqG (g := fun b => !b)
end DM
end
section
set_option autoImplicit false
set_option Elab.async false
set_option linter.all false
set_option maxRecDepth 100000
set_option maxHeartbeats 4000000
/-! DM10: built-in calls, subscripts, slices, in, is None, displays. -/
namespace DM
open PySem PySem.Spec PyProof.Rows L2

/-! ### built-in calls -/
def OpdL (C : Cl) (F H : Hp) : List D → List V → Prop
  | [], xs => xs = []
  | d :: ds, xs => ∃ x r, xs = x :: r ∧ Opd C F H d x ∧ OpdL C F H ds r
def PrimN (C : Cl) (r : List V → Hp → VK → Prop) (opD : List D → Option D) : Prop := ∀ (F H : Hp) (ds : List D) (d : D) (xs : List V) (Q : VK), Sub F H → OpdL C F H ds xs → opD ds = some d → (∀ v F' H' fp, NewOk C F H d v F' H' fp → Q v H') → r xs H Q
def okBs (G : List Md) (Bs : List (Option Nat)) : Bool := Bs.all (okB G)
def opN (opD : List D → Option D) (os : List Opn) : M D := fun ρ => match resL ρ os with
  | some ds => (match opD ds with
    | some d => .ok d ρ
    | none => .bad)
  | none => .bad
def eBt (opD : List D → Option D) (m : M (List Opn)) : M D := bindM m (opN opD)
section
variable {T : Ct} {G G1 G2 G' : List Md} {F F1 F' H H1 H' : Hp} {U U1 : List Addr} {σ : Sl} {ρ : DEnv} {fps fps1 : List (List Addr)} {ex : List Addr} {C : Cl} {pin : List (Nat × V)}
theorem opdL_of (r : Rel C pin G F H σ ρ fps ex) : ∀ {Bs : List (Option Nat)} {os : List Opn} {vs : List V} {ds : List D}, ArgsV C F σ Bs os vs → resL ρ os = some ds → okBs G Bs = true → OpdL C F H ds vs
  | [], [], [], ds, _, e, _ => by simp [resL] at e; subst e; rfl
  | B :: Bs, o :: os, v :: vs, ds, a, e, k => by
    unfold resL at e
    simp only [okBs, List.all_cons, Bool.and_eq_true] at k
    cases q1 : resO ρ o with
    | none => rw [q1] at e; simp at e
    | some d1 =>
      cases q2 : resL ρ os with
      | none => rw [q1, q2] at e; simp at e
      | some ds1 =>
        rw [q1, q2] at e
        simp at e; subst e
        exact ⟨v, vs, rfl, opd_of r a.1 q1 k.1, opdL_of r a.2 q2 k.2⟩
  | [], [], _ :: _, _, h, _, _ => h.elim
  | [], _ :: _, _, _, h, _, _ => h.elim
  | _ :: _, [], _, _, h, _, _ => h.elim
  | _ :: _, _ :: _, [], _, h, _, _ => h.elim
theorem sf_opN {e : Expr} {r : List V → Hp → VK → Prop} {opD : List D → Option D} {Bs : List (Option Nat)} {m : M (List Opn)} (pr : PrimN T.C r opD) (h : PE T.X e (tCB r (tG T G G' (rA T.C Bs) m))) (k : okBs G' Bs = true := by rfl) : SF T G e 0 G' (eBt opD m) := PEimp h fun σ H Q ⟨F, ρ, fps, ex, r0, m0⟩ => by
  refine seqR r0 m0 fun os vs F1 H1 ρ1 fps1 fp1 e1 r1 z1 m1 => ?_
  obtain ⟨rfl, z1⟩ := z1
  unfold opN at m1
  cases q1 : resL ρ1 os with
  | none => rw [q1] at m1; exact m1.elim
  | some ds =>
    rw [q1] at m1
    dsimp only at m1
    cases q2 : opD ds with
    | none => rw [q2] at m1; exact m1.elim
    | some d =>
      rw [q2] at m1
      refine pr F1 H1 ds d vs Q r1.sub (opdL_of r1 z1 q1 k) q2 fun v F' H' fp n => ?_
      obtain ⟨x1, x2⟩ := n.go r1
      exact Rem.fin m1 x1 x2 n.1
theorem sf_callB {id : String} {r : List V → Hp → VK → Prop} {opD : List D → Option D} {Bs : List (Option Nat)} {m : M (List Opn)} {x : Str} {p pos : Pos} {e : Expr} {es : List Expr} (pr : PrimN T.C r opD) (hc : CallR T.X (.builtin id) r) (hg : Gl T.X x) (hm : T.X.mg x = none) (hv : bootBuiltins x = some (.builtin id))
    (ha : SA T G (e :: es) Bs G' m) (k : okBs G' Bs = true := by rfl) (hn : x ≠ "__name__" := by decide) (hdb : (x == ("__debug__" : Str)) = false := by decide)
    (he : starEach (e :: es) T.X.env = (false, eval e T.X.env) :: starEach es T.X.env := by rfl) (hpl : (backTo pos (starEach es T.X.env)).any (·.1) = false := by rfl) : SF T G (.Call (.Name x p) (e :: es) [] pos) 0 G' (eBt opD m) :=
  sf_opN pr (pe_callB hc hg hm hv ha hn hdb he hpl) k
theorem sf_callTy {id : String} {r : List V → Hp → VK → Prop} {opD : List D → Option D} {Bs : List (Option Nat)} {m : M (List Opn)} {x : Str} {p pos : Pos} {e : Expr} {es : List Expr} (pr : PrimN T.C r opD) (hc : CallR T.X (.type id) r) (hg : Gl T.X x) (hm : T.X.mg x = none) (hv : bootBuiltins x = some (.type id))
    (ha : SA T G (e :: es) Bs G' m) (k : okBs G' Bs = true := by rfl) (hn : x ≠ "__name__" := by decide) (hdb : (x == ("__debug__" : Str)) = false := by decide)
    (he : starEach (e :: es) T.X.env = (false, eval e T.X.env) :: starEach es T.X.env := by rfl) (hpl : (backTo pos (starEach es T.X.env)).any (·.1) = false := by rfl) : SF T G (.Call (.Name x p) (e :: es) [] pos) 0 G' (eBt opD m) :=
  sf_opN pr (pe_callTy hc hg hm hv ha hn hdb he hpl) k
theorem opdL1 {d : D} {xs : List V} (h : OpdL C F H [d] xs) : ∃ x, xs = [x] ∧ Opd C F H d x := by
  obtain ⟨x, r, rfl, h1, h2⟩ := h
  cases (show r = [] from h2)
  exact ⟨x, rfl, h1⟩
theorem opdL2 {d e : D} {xs : List V} (h : OpdL C F H [d, e] xs) : ∃ x y, xs = [x, y] ∧ Opd C F H d x ∧ Opd C F H e y := by
  obtain ⟨x, r, rfl, h1, y, r2, rfl, h2, h3⟩ := h
  cases (show r2 = [] from h3)
  exact ⟨x, y, rfl, h1, h2⟩
end
/-- a function of one value -/
def fn1 (f : D → Option D) : List D → Option D
  | [d] => f d
  | _ => none
def fn2 (f : D → D → Option D) : List D → Option D
  | [d, e] => f d e
  | _ => none
theorem prim_n1 {C : Cl} {r : List V → Hp → VK → Prop} {f : D → Option D} (h : ∀ (F H : Hp) (d1 d : D) (x : V) (Q : VK), Sub F H → Opd C F H d1 x → f d1 = some d → (∀ v F' H' fp, NewOk C F H d v F' H' fp → Q v H') → r [x] H Q) : PrimN C r (fn1 f) := by
  intro F H ds d xs Q s h1 e q
  match ds, h1, e with
  | [d1], h1, e =>
    obtain ⟨x, rfl, hx⟩ := opdL1 h1
    exact h F H d1 d x Q s hx e q
  | [], _, e => cases e
  | _ :: _ :: _, _, e => cases e
theorem prim_n2 {C : Cl} {r : List V → Hp → VK → Prop} {f : D → D → Option D} (h : ∀ (F H : Hp) (d1 d2 d : D) (x y : V) (Q : VK), Sub F H → Opd C F H d1 x → Opd C F H d2 y → f d1 d2 = some d → (∀ v F' H' fp, NewOk C F H d v F' H' fp → Q v H') → r [x, y] H Q) : PrimN C r (fn2 f) := by
  intro F H ds d xs Q s h1 e q
  match ds, h1, e with
  | [d1, d2], h1, e =>
    obtain ⟨x, y, rfl, hx, hy⟩ := opdL2 h1
    exact h F H d1 d2 d x y Q s hx hy e q
  | [], _, e => cases e
  | [_], _, e => cases e
  | _ :: _ :: _ :: _, _, e => cases e
/-! len -/
def lenD : D → Option D
  | .str s => some (.int s.length)
  | .lst l => some (.int l.length)
  | .tup l => some (.int l.length)
  | .tpx l => some (.int l.length)
  | .dic _ l => some (.int l.length)
  | .dct _ l => some (.int l.length)
  | _ => none
def rLenD : List V → Hp → VK → Prop := fun xs H Q => ∃ p kvs, xs = [.ref p] ∧ H p = some (.dK kvs) ∧ Q (.int kvs.length) H
theorem prim_len {C : Cl} : PrimN C (fun xs H Q => ∃ x n, xs = [x] ∧ LenV C.K x H n ∧ Q (.int n) H) (fn1 fun d => match d with | .dic _ _ => none | .dct _ _ => none | d => lenD d) := prim_n1 fun F H d1 d x Q s h e q => by
  cases d1 <;> simp only [lenD, reduceCtorEq, Option.some.injEq] at e
  case str z =>
    subst e
    obtain ⟨rfl, hz, _⟩ := h.str
    exact ⟨_, _, rfl, ⟨hz, rfl⟩, q _ _ _ _ (NewOk.plain rfl rep_int)⟩
  case lst l =>
    subst e
    obtain ⟨p, xs, rfl, e1, r1, z1⟩ := h.lst s
    exact ⟨_, l.length, rfl, .inl ⟨xs, SqL.of e1, r1.length⟩, q _ _ _ _ (NewOk.plain rfl rep_int)⟩
  case tup l =>
    subst e
    obtain ⟨p, xs, rfl, e1, r1, z1⟩ := h.tup s
    exact ⟨_, l.length, rfl, .inr ⟨xs, SqT.of e1, r1.length⟩, q _ _ _ _ (NewOk.plain rfl rep_int)⟩
  case tpx l =>
    subst e
    obtain ⟨p, ob, xs, rfl, e1, _, r1, z1⟩ := h.tpx s
    exact ⟨_, l.length, rfl, .inr ⟨xs, sqT_fz e1, r1.length⟩, q _ _ _ _ (NewOk.plain rfl rep_int)⟩
def lenS : D → Option D
  | .dic _ _ => none
  | .dct _ _ => none
  | d => lenD d
theorem prim_lenS {C : Cl} : PrimN C (fun xs H Q => ∃ x n, xs = [x] ∧ LenV C.K x H n ∧ Q (.int n) H) (fn1 lenS) := by
  have e : lenS = fun d => match d with | .dic _ _ => none | .dct _ _ => none | d => lenD d := by funext d; cases d <;> rfl
  rw [e]; exact prim_len
/-! abs, max, min, int, str of an int -/
def absD : D → Option D
  | .int i => some (.int (if i < 0 then -i else i))
  | _ => none
theorem prim_abs {C : Cl} : PrimN C (fun xs H Q => ∃ i, xs = [.int i] ∧ Q (.int (if i < 0 then -i else i)) H) (fn1 absD) := prim_n1 fun F H d1 d x Q s h e q => by
  cases d1 <;> simp only [absD, reduceCtorEq, Option.some.injEq] at e
  case int i => subst e; rw [h.int]; exact ⟨i, rfl, q _ _ _ _ (NewOk.plain rfl rep_int)⟩
def maxD : D → D → Option D
  | .int i, .int j => some (.int (if j > i then j else i))
  | _, _ => none
def minD : D → D → Option D
  | .int i, .int j => some (.int (if j < i then j else i))
  | _, _ => none
theorem prim_max {C : Cl} : PrimN C (fun xs H Q => ∃ i j, xs = [.int i, .int j] ∧ Q (.int (if j > i then j else i)) H) (fn2 maxD) := prim_n2 fun F H d1 d2 d x y Q s h1 h2 e q => by
  cases d1 <;> cases d2 <;> simp only [maxD, reduceCtorEq, Option.some.injEq] at e
  case int.int i j => subst e; rw [h1.int, h2.int]; exact ⟨i, j, rfl, q _ _ _ _ (NewOk.plain rfl rep_int)⟩
def toIntD : D → Option D
  | .int i => some (.int i)
  | .bl b => some (.int (if b then 1 else 0))
  | _ => none
theorem prim_toInt {C : Cl} : PrimN C (fun xs H Q => (∃ i, xs = [.int i] ∧ Q (.int i) H) ∨ ∃ k, xs = [.bl k] ∧ Q (.int (if k then 1 else 0)) H) (fn1 toIntD) := prim_n1 fun F H d1 d x Q s h e q => by
  cases d1 <;> simp only [toIntD, reduceCtorEq, Option.some.injEq] at e
  case int i => subst e; rw [h.int]; exact .inl ⟨i, rfl, q _ _ _ _ (NewOk.plain rfl rep_int)⟩
  case bl i => subst e; rw [h.bl]; exact .inr ⟨i, rfl, q _ _ _ _ (NewOk.plain rfl rep_int)⟩
def strD : D → Option D
  | .int i => if i.natAbs < 2 ^ 1900 ∧ (Str.ofString (toString i)).length ≤ sizeLine ∧ PyData.strOk (Str.ofString (toString i)) = true then some (.str (Str.ofString (toString i))) else none
  | _ => none
theorem prim_str {C : Cl} : PrimN C (fun xs H Q => ∃ i, xs = [.int i] ∧ i.natAbs.log2 < 1920 ∧ Q (.str (toString i)) H) (fn1 strD) := prim_n1 fun F H d1 d x Q s h e q => by
  cases d1 <;> simp only [strD, reduceCtorEq] at e
  case int i =>
    split at e
    case isTrue hc =>
      cases e
      rw [h.int]
      refine ⟨i, rfl, ?_, q _ _ _ _ (NewOk.plain rfl (rep_str hc.2.1 hc.2.2))⟩
      by_cases h0 : i.natAbs = 0
      · rw [h0]; decide
      · exact Nat.lt_of_lt_of_le ((Nat.log2_lt h0).mpr hc.1) (by decide)
    case isFalse => cases e
/-! list(..), tuple(..) -/
def listD : D → Option D
  | .lst l => some (.lst l)
  | .tup l => some (.lst l)
  | _ => none
theorem prim_list {C : Cl} : PrimN C (fun xs H Q => ∃ p ys, xs = [.ref p] ∧ (SqL C.K H p ys ∨ SqT C.K H p ys) ∧ ∀ l, H l = none → Q (.ref l) (upd H l (.lst ys))) (fn1 listD) := prim_n1 fun F H d1 d x Q s h e q => by
  cases d1 <;> simp only [listD, reduceCtorEq, Option.some.injEq] at e
  case lst l =>
    subst e
    obtain ⟨p, xs, rfl, e1, r1, z1⟩ := h.lst s
    exact ⟨p, xs, rfl, .inl (SqL.of e1), fun n hn => q _ _ _ _ (NewOk.lst hn r1 z1)⟩
  case tup l =>
    subst e
    obtain ⟨p, xs, rfl, e1, r1, z1⟩ := h.tup s
    exact ⟨p, xs, rfl, .inr (SqT.of e1), fun n hn => q _ _ _ _ (NewOk.lst hn r1 z1)⟩
def tupleD : D → Option D
  | .lst l => some (.tup l)
  | .tup l => some (.tup l)
  | _ => none
theorem prim_tuple {C : Cl} : PrimN C (fun xs H Q => ∃ p ys, xs = [.ref p] ∧ ((SqL C.K H p ys ∧ ∀ l, H l = none → Q (.ref l) (upd H l (.tup ys))) ∨ (SqT C.K H p ys ∧ Q (.ref p) H))) (fn1 tupleD) := prim_n1 fun F H d1 d x Q s h e q => by
  cases d1 <;> simp only [tupleD, reduceCtorEq, Option.some.injEq] at e
  case lst l =>
    subst e
    obtain ⟨p, xs, rfl, e1, r1, z1⟩ := h.lst s
    exact ⟨p, xs, rfl, .inl ⟨SqL.of e1, fun n hn => q _ _ _ _ (NewOk.tup s hn r1 z1)⟩⟩
  case tup l =>
    subst e
    have hr := h.tupR
    obtain ⟨p, xs, rfl, e1, r1, z1⟩ := h.tup s
    exact ⟨p, xs, rfl, .inr ⟨SqT.of e1, q _ _ _ _ (NewOk.plain rfl hr)⟩⟩

/-! ### a[i] -/
def ixL {α : Type} (xs : List α) (i : Int) : Option α := atI xs i
def getD' : D → D → Option D
  | .lst l, .int i => atI l i
  | .tup l, .int i => atI l i
  | .str s, .int i => (atI s.cps.toList i).map fun c => .str ⟨#[c]⟩
  | .dic ks vs, .int i => ((ks.zip vs).find? fun p => decide (p.1 = Sum.inl i)).map (·.2)
  | .dic ks vs, .str i => ((ks.zip vs).find? fun p => decide (p.1 = Sum.inr i)).map (·.2)
  | _, _ => none
theorem atI_rel {C : Cl} {F : Hp} {ds : List D} {xs : List V} {i : Int} {d : D} (r : RepL C F ds xs) (e : atI ds i = some d) : ∃ x, atI xs i = some x ∧ Rep C F d x := by
  unfold atI at e ⊢
  rw [← r.length]
  cases q : ixN ds.length i with
  | none => rw [q] at e; cases e
  | some j =>
    rw [q] at e
    exact r.get e
theorem PE.any {X : Cx} {e : Expr} {t : TE} (h : PE X e t) : PE X e t := h
def rDGetR : R2 := fun x y H Q => ∃ a v, x = .ref a ∧ DGet H a y (some v) ∧ Q v H
theorem ix_dict {X : Cx} (hu : X.A.units + 1 < cLine) : IxR X rDGetR := by
  intro value slice pins s σ H x y v u Q I rx ry h hs
  obtain ⟨a, z, rfl, g, q⟩ := h
  obtain rfl : v = Value.ref a := rx
  exact tail_any (dict_typeIs I g) PySem.F.slot_dict_getitem.lookup (d_getItem hu I g ry fun w' s3 I3 rw' => ⟨z, H, I3, rw', q⟩) hs
def rIxA (K : PySem.W.Frag) : R2 := fun x y H Q => rIx K x y H Q ∨ rDGetR x y H Q
theorem ix_any {X : Cx} (hu : X.A.units + 1 < cLine) : IxR X (rIxA X.K) := ix_seq.or (ix_dict hu)
/-- an operation whose value is frozen already -/
def PrimV2 (C : Cl) (r : R2) (opD : D → D → Option D) : Prop := ∀ (F H : Hp) (d1 d2 d : D) (x y : V) (Q : VK), Sub F H → Opd C F H d1 x → Opd C F H d2 y → opD d1 d2 = some d → (∀ v, Rep C F d v → Q v H) → r x y H Q
section
variable {T : Ct} {G G1 G2 G' : List Md} {F F1 F' H H1 H' : Hp} {C : Cl}
theorem sv_op2 {e : Expr} {r : R2} {opD : D → D → Option D} {Ba Bb : Option Nat} {m1 m2 : M Opn} (pr : PrimV2 T.C r opD)
    (h : PE T.X e (tOp r (tG T G G1 (rO T.C Ba) m1) (tG T G1 G2 (rO T.C Bb) m2))) (ka : okB G2 Ba = true := by rfl) (kb : okB G2 Bb = true := by rfl) : SV T G e G2 (eBin opD m1 m2) := PEimp h fun σ H Q w => by
  obtain ⟨F, ρ, fps, ex, r0, m0⟩ := w
  refine seqR r0 m0 fun o1 x F1 H1 ρ1 fps1 fp1 e1 r1 z1 m1 => ?_
  obtain ⟨rfl, z1⟩ := z1
  refine seqR r1 m1 fun o2 y F2 H2 ρ2 fps2 fp2 e2 r2 z2 m2 => ?_
  obtain ⟨rfl, z2⟩ := z2
  unfold op2 at m2
  cases q1 : resO ρ2 o1 with
  | none => rw [q1] at m2; exact m2.elim
  | some d1 =>
    cases q2 : resO ρ2 o2 with
    | none => rw [q1, q2] at m2; exact m2.elim
    | some d2 =>
      rw [q1, q2] at m2
      dsimp only at m2
      cases q3 : opD d1 d2 with
      | none => rw [q3] at m2; exact m2.elim
      | some d =>
        rw [q3] at m2
        exact pr F2 H2 d1 d2 d x y Q r2.sub (opd_of r2 (z1.mono e2.e1) q1 ka) (opd_of r2 z2 q2 kb) q3 fun v n => Rem.fin (fp := []) m2 (Ext.refl _ _ _) r2 ⟨rfl, n⟩
end
theorem find_zip {C : Cl} {F : Hp} {κ : Type} [DecidableEq κ] {k : κ} : ∀ {ks : List κ} {ds : List D} {xs : List V} {d : D}, RepL C F ds xs → ((ks.zip ds).find? fun p => decide (p.1 = k)).map (·.2) = some d → ∃ v, valV (ks.zip xs) k = some v ∧ Rep C F d v
  | [], _, _, _, _, e => by simp at e
  | _ :: _, [], _, _, _, e => by simp at e
  | k' :: ks, d' :: ds, xs, d, r, e => by
    unfold RepL at r
    obtain ⟨x, xr, rfl, h1, h2⟩ := r
    unfold valV
    simp only [List.zip_cons_cons, List.find?_cons] at e ⊢
    by_cases hk : k' = k
    · simp only [hk, decide_true] at e ⊢
      cases e
      exact ⟨x, rfl, h1⟩
    · simp only [hk, decide_false] at e ⊢
      exact find_zip h2 e
theorem find_zip_none {C : Cl} {F : Hp} {κ : Type} [DecidableEq κ] {k : κ} : ∀ {ks : List κ} {ds : List D} {xs : List V}, RepL C F ds xs → ((ks.zip ds).find? fun p => decide (p.1 = k)).map (·.2) = none → valV (ks.zip xs) k = none
  | [], _, _, _, _ => by simp [valV]
  | _ :: _, [], xs, r, _ => by unfold RepL at r; subst r; simp [valV]
  | k' :: ks, d' :: ds, xs, r, e => by
    unfold RepL at r
    obtain ⟨x, xr, rfl, h1, h2⟩ := r
    unfold valV
    simp only [List.zip_cons_cons, List.find?_cons] at e ⊢
    by_cases hk : k' = k
    · simp only [hk, decide_true] at e; cases e
    · simp only [hk, decide_false] at e ⊢
      exact find_zip_none h2 e
theorem strOk_one {z : Str} {c : Nat} (h : PyData.strOk z = true) (hc : c ∈ z.cps.toList) : PyData.strOk ⟨#[c]⟩ = true := by
  rw [strOk_mem] at *
  intro c' h'
  simp at h'
  subst h'
  exact h _ hc
theorem atI_mem {α : Type} {xs : List α} {i : Int} {c : α} (h : atI xs i = some c) : c ∈ xs := by
  unfold atI at h
  cases q : ixN xs.length i with
  | none => rw [q] at h; cases h
  | some j => rw [q] at h; exact List.mem_of_getElem? h
/-- a key of a dict -/
def keyOf : D → Option Key
  | .int i => some (.inl i)
  | .str s => some (.inr s)
  | _ => none
def keysOf : List D → Option (List Key)
  | [] => some []
  | d :: ds => match keyOf d, keysOf ds with
    | some k, some ks => some (k :: ks)
    | _, _ => none
def lookD (d e : D) : Option (Option D) := match d, e with
  | .dic ks vs, .int i => some (((ks.zip vs).find? fun p => decide (p.1 = Sum.inl i)).map (·.2))
  | .dic ks vs, .str i => some (((ks.zip vs).find? fun p => decide (p.1 = Sum.inr i)).map (·.2))
  | .dct ks vs, .tup ds => (keysOf ds).map fun k => ((ks.zip vs).find? fun p => decide (p.1 = k)).map (·.2)
  | _, _ => none
theorem keysOf_rep {C : Cl} {F : Hp} : ∀ {ds : List D} {xs : List V} {ks : List Key}, RepL C F ds xs → keysOf ds = some ks → xs = ks.map kV
  | [], xs, ks, r, e => by unfold RepL at r; subst r; simp [keysOf] at e; subst e; rfl
  | d :: ds, xs, ks, r, e => by
    unfold RepL at r
    obtain ⟨x, xr, rfl, h1, h2⟩ := r
    unfold keysOf at e
    cases q1 : keyOf d with
    | none => rw [q1] at e; simp at e
    | some k1 =>
      cases q2 : keysOf ds with
      | none => rw [q1, q2] at e; simp at e
      | some ks1 =>
        rw [q1, q2] at e
        simp at e; subst e
        have := keysOf_rep h2 q2
        subst this
        cases d <;> simp only [keyOf, reduceCtorEq, Option.some.injEq] at q1
        case int i => subst q1; unfold Rep at h1; subst h1; rfl
        case str i => subst q1; unfold Rep at h1; obtain ⟨rfl, _⟩ := h1; rfl
def RO (C : Cl) (F : Hp) : Option D → Option V → Prop
  | some d, some v => Rep C F d v
  | none, none => True
  | _, _ => False
theorem look_get {C : Cl} {F H : Hp} {d e : D} {x y : V} {o : Option D} (s : Sub F H) (h1 : Opd C F H d x) (h2 : Opd C F H e y) (l : lookD d e = some o) : ∃ a o', x = .ref a ∧ DGet H a y o' ∧ RO C F o o' := by
  have fin : ∀ {κ : Type} [DecidableEq κ] {k : κ} {ks : List κ} {vs : List D} {xs : List V} {o : Option D}, RepL C F vs xs → ((ks.zip vs).find? fun p => decide (p.1 = k)).map (·.2) = o → RO C F o (valV (ks.zip xs) k) := by
    intro κ _ k ks vs xs o r e
    cases o with
    | none => rw [find_zip_none r e]; trivial
    | some d' =>
      obtain ⟨v, h1, h2⟩ := find_zip r e
      rw [h1]; exact h2
  cases d <;> cases e <;> simp only [lookD, reduceCtorEq, Option.some.injEq] at l
  case dic.int ks vs i =>
    obtain ⟨a, xs, rfl, e1, r1, _⟩ := h1.dic s
    rw [h2.int]
    exact ⟨a, _, rfl, .inl ⟨_, .inl i, e1, rfl, rfl⟩, fin r1 l⟩
  case dic.str ks vs i =>
    obtain ⟨a, xs, rfl, e1, r1, _⟩ := h1.dic s
    rw [h2.str.1]
    exact ⟨a, _, rfl, .inl ⟨_, .inr i, e1, rfl, rfl⟩, fin r1 l⟩
  case dct.tup ks vs ds =>
    obtain ⟨a, xs, rfl, e1, r1, _⟩ := h1.dct s
    obtain ⟨b, ys, rfl, e2, r2, _⟩ := h2.tup s
    cases q : keysOf ds with
    | none => rw [q] at l; cases l
    | some k =>
      rw [q] at l
      simp only [Option.map_some, Option.some.injEq] at l
      have := keysOf_rep r2 q
      subst this
      exact ⟨a, _, rfl, .inr ⟨_, k, b, e1, rfl, e2, rfl⟩, fin r1 l⟩
def idxD (d e : D) : Option D := match d, e with
  | .lst l, .int i => atI l i
  | .tup l, .int i => atI l i
  | .tpx l, .int i => atI l i
  | .str s, .int i => (atI s.cps.toList i).map fun c => .str ⟨#[c]⟩
  | d, e => (lookD d e).join
theorem prim_idx {C : Cl} : PrimV2 C (rIxA C.K) idxD := by
  intro F H d1 d2 d x y Q s h1 h2 e q
  have dict : (lookD d1 d2).join = some d → rIxA C.K x y H Q := fun e => by
    cases l : lookD d1 d2 with
    | none => rw [l] at e; cases e
    | some o =>
      rw [l] at e
      cases o with
      | none => cases e
      | some d' =>
        cases e
        obtain ⟨a, o', rfl, g, m⟩ := look_get s h1 h2 l
        cases o' with
        | none => exact m.elim
        | some v => exact .inr ⟨a, v, rfl, g, q v m⟩
  cases d1 <;> cases d2 <;> first | exact dict e | skip
  case lst.int l i =>
    obtain ⟨p, xs, rfl, e1, r1, z1⟩ := h1.lst s
    rw [h2.int]
    obtain ⟨v, h3, h4⟩ := atI_rel r1 e
    exact .inl (.inl ⟨p, xs, i, v, rfl, rfl, SqL.of e1, h3, q v h4⟩)
  case tup.int l i =>
    obtain ⟨p, xs, rfl, e1, r1, z1⟩ := h1.tup s
    rw [h2.int]
    obtain ⟨v, h3, h4⟩ := atI_rel r1 e
    exact .inl (.inr (.inl ⟨p, xs, i, v, rfl, rfl, SqT.of e1, h3, q v h4⟩))
  case tpx.int l i =>
    obtain ⟨p, ob, xs, rfl, e1, _, r1, z1⟩ := h1.tpx s
    rw [h2.int]
    obtain ⟨v, h3, h4⟩ := atI_rel r1 e
    exact .inl (.inr (.inl ⟨p, xs, i, v, rfl, rfl, sqT_fz e1, h3, q v h4⟩))
  case str.int z i =>
    obtain ⟨rfl, hz, ok⟩ := h1.str
    rw [h2.int]
    unfold idxD at e
    dsimp only at e
    cases q1 : atI z.cps.toList i with
    | none => rw [q1] at e; cases e
    | some c =>
      rw [q1] at e
      cases e
      exact .inl (.inr (.inr ⟨z, i, c, rfl, rfl, hz, q1, q _ (rep_str (by show (1 : Nat) ≤ _; decide) (strOk_one ok (atI_mem q1)))⟩))
theorem sv_idx {T : Ct} {G G1 G2 : List Md} {a b : Expr} {pos : Pos} {Ba Bb : Option Nat} {m1 m2 : M Opn} (ok : T.Ok) (ha : SO T G a Ba G1 m1) (hb : SO T G1 b Bb G2 m2) (hs : PlainIx b) (ka : okB G2 Ba = true := by rfl) (kb : okB G2 Bb = true := by rfl) :
    SV T G (.Subscript a b pos) G2 (eBin idxD m1 m2) := by
  have pr : PrimV2 T.C (rIxA T.X.K) idxD := by rw [← ok.hK]; exact prim_idx
  exact sv_op2 pr (pe_ix (ix_any (by have := ok.un; omega)) ha hb hs) ka kb
end DM
end
section
set_option autoImplicit false
set_option Elab.async false
set_option linter.all false
set_option maxRecDepth 100000
set_option maxHeartbeats 4000000
/-! DM11: t[::-1] of a tuple; slices; in; is; displays. -/
namespace DM
open PySem PySem.Spec PyProof.Rows L2
section
variable {prog : Program} {w : World} {A : Around} {E : Value → Shared → Prop} {s : Shared}
theorem sliceApplied_rev {sl : Addr} {vl vu vs : Value} {n : Nat} {Q : Int × Int × Nat → Shared → Prop} (hs : s.heap.IsSliceOf sl vl vu vs) (pl : IsPart vl none) (pu : IsPart vu none) (ps : IsPart vs (some (-1)))
    (h : Q ((n : Int) - 1, -1, n) s) : wpAny (model prog w) A (Builtin.Slice.sliceApplied (.ref sl) (pure (n : Int))) Q E s := by
  obtain ⟨os, hos, hcs, hds⟩ := id hs
  unfold Builtin.Slice.sliceApplied Builtin.Slice.sliceFields
  refine wpAny_bind (wpAny_bind (wpAny_field hos hds (x := vl) rfl (wpAny_bind (wpAny_field hos hds (x := vu) rfl (wpAny_bind (wpAny_field hos hds (x := vs) rfl (wpAny_pure ?_)))))))
  refine wpAny_bind (HT.slicePart_ ps ?_)
  show wpAny _ _ (if ((-1 : Int) == 0) = true then _ else _) _ _ s
  rw [if_neg (by decide)]
  refine wpAny_bind (HT.slicePart_ pl (wpAny_bind (HT.slicePart_ pu (wpAny_bind (wpAny_pure ?_)))))
  have e1 : Builtin.Slice.sliceAdjust none none (-1) (n : Int) = ((n : Int) - 1, -1) := by
    unfold Builtin.Slice.sliceAdjust
    simp
  have e2 : Builtin.Slice.slicePlaces ((n : Int) - 1) (-1) (-1) = n := by
    unfold Builtin.Slice.slicePlaces
    have h1 : ¬ ((-1 : Int) > 0) := by decide
    simp only [h1, if_false]
    by_cases h : (n : Int) - 1 > -1
    · simp only [h, if_true]
      rw [show (- -1 : Int) = 1 by decide, Int.ediv_one]
      omega
    · simp only [h, if_false]
      omega
  show wpAny _ _ (match Builtin.Slice.sliceAdjust none none (-1) (n : Int) with | (lo, hi) => pure (lo, (-1 : Int), Builtin.Slice.slicePlaces lo hi (-1))) _ _ s
  rw [e1]
  show wpAny _ _ (pure ((n : Int) - 1, (-1 : Int), Builtin.Slice.slicePlaces ((n : Int) - 1) (-1) (-1))) _ _ s
  rw [e2]
  exact wpAny_pure h
theorem pick_rev (xs : Array Value) : ((List.range xs.size).filterMap fun (m : Nat) => xs[(((xs.size : Nat) : Int) - 1 + (m : Int) * -1).toNat]?).toArray = xs.toList.reverse.toArray := by
  have e : ((List.range xs.size).filterMap fun (m : Nat) => xs[(((xs.size : Nat) : Int) - 1 + (m : Int) * -1).toNat]?) = ((List.range xs.size).map fun k => xs.size - 1 - k).filterMap (xs[·]?) := by
    rw [List.filterMap_map]
    have aux : ∀ l : List Nat, (∀ m ∈ l, m < xs.size) → l.filterMap (fun (m : Nat) => xs[(((xs.size : Nat) : Int) - 1 + (m : Int) * -1).toNat]?) = l.filterMap ((fun x => xs[x]?) ∘ fun k => xs.size - 1 - k) := by
      intro l
      induction l with
      | nil => intro _; rfl
      | cons m l ih =>
        intro h
        have hm := h m List.mem_cons_self
        have e : (((xs.size : Nat) : Int) - 1 + (m : Int) * -1).toNat = xs.size - 1 - m := by omega
        rw [List.filterMap_cons, List.filterMap_cons, ih fun k hk => h k (List.mem_cons_of_mem _ hk)]
        simp only [Function.comp, e]
    exact aux _ fun m hm => List.mem_range.mp hm
  rw [e, PySem.W.krv_range, List.filterMap_reverse, PySem.W.krv_all]
theorem getItem_tuple_rev {t sl : Addr} {items : Array Value} {vl vu vs : Value} {Q : Value → Shared → Prop} (ht : IsTup s.heap t items) (hs : s.heap.IsSliceOf sl vl vu vs) (pl : IsPart vl none) (pu : IsPart vu none) (ps : IsPart vs (some (-1)))
    (h : Q (.ref s.heap.objs.size) { s with heap := s.heap.push { cls := .type "tuple", data := .seq items.toList.reverse.toArray } })
    (hsz : items.size ≤ sizeLine) : wpAny (model prog w) A (getItem (.ref t) (.ref sl)) Q E s := by
  have htake : sizeOk (.seq items.toList.reverse.toArray) := by
    show items.toList.reverse.toArray.size ≤ sizeLine
    rw [List.size_toArray, List.length_reverse, Array.length_toList]
    exact hsz
  obtain ⟨os, hos, hcs, hds⟩ := id hs
  have hTs : s.TypeIs (.ref sl) "slice" := ⟨os, hos, hcs⟩
  unfold getItem
  try with_reducible refine wpAny_holding ?_
  first | refine wpAny_bind (wpAny_pure ?_) | skip
  refine wpAny_bind (wpAny_sequenceKey ht.typeIs (by decide) ?_)
  refine wpAny_bind (wpAny_callSpecial?_slot (name := Str.ofString "__getitem__") ht.typeIs PyProof.Rows.slot_tuple_getitem
    (wpAny_call_entry PyProof.Rows.slot_tuple_getitem ht.typeIs entry_tuple_getitem ?_ (args_tuple_getitem _ _)))
  show wpAny _ _ (Builtin.Tuple.tupleItemsOf (.ref t) >>= _) _ _ s
  refine wpAny_bind (tupleItemsOf_ ht ?_)
  refine wpAny_bind (wpAny_typeOf hTs ?_)
  rw [if_pos (by decide)]
  refine wpAny_bind (sliceApplied_rev hs pl pu ps ?_)
  have hno : ¬ ((((items.size : Nat) : Int) - 1 == 0 && (-1 : Int) == 1 && items.size == items.size) = true) := by
    intro q
    rw [Bool.and_eq_true, Bool.and_eq_true] at q
    exact absurd q.1.2 (by decide)
  show wpAny _ _ (if (((items.size : Nat) : Int) - 1 == 0 && (-1 : Int) == 1 && items.size == items.size) = true then _ else _) _ _ s
  rw [if_neg hno, pick_rev]
  first
    | exact wpAny_bind (m := Builtin.Tuple.tupleExact _) (wpAny_newObj_type (wpAny_pure ⟨_, rfl, wpAny_pure h⟩) htake)
    | exact wpAny_bind (m := Builtin.Tuple.tupleExact _) (wpAny_newObj_type (wpAny_bind (wpAny_pure (wpAny_pure ⟨_, rfl, wpAny_pure h⟩))) htake)
    | exact wpAny_bind (wpAny_bind (m := Builtin.Tuple.tupleExact _) (wpAny_newObj_type (wpAny_pure (wpAny_pure ⟨_, rfl, wpAny_pure h⟩)) htake))
    | exact wpAny_bind (wpAny_bind (m := Builtin.Tuple.tupleExact _) (wpAny_newObj_type (wpAny_pure ⟨_, rfl, wpAny_pure h⟩) htake))
end
/-- x[::-1] of a list or a tuple -/
def tRevA (K : PySem.W.Frag) (te : TE) : TE := fun σ H Q => te σ H fun x H1 => (∃ a xs, x = .ref a ∧ SqL K H1 a xs ∧ ∀ p, H1 p = none → Q (.ref p) (upd H1 p (.lst xs.reverse))) ∨
  ∃ a xs, x = .ref a ∧ SqT K H1 a xs ∧ ∀ p, H1 p = none → Q (.ref p) (upd H1 p (.tup xs.reverse))
theorem pe_revA {X : Cx} {e : Expr} {te : TE} {k : Nat} {p1 p2 p3 pos : Pos} (he : PE X e te) : PE X (.Subscript e (.Slice none none (some (.UnaryOp .USub (.Constant (.int 1) k p1) p2)) p3) pos) (tRevA X.K te) := by
  refine ⟨fun pins s σ H Q I h => ?_⟩
  refine Subscript_ (thn (he.run pins s σ H _ I h) fun v s1 ⟨x, H1, I1, r1, q1⟩ => ?_)
  have hst : PO X (some (.UnaryOp .USub (.Constant (.int 1) k p1) p2)) (tPart (tUn (rU fun i => .int (-i)) (tC (.int 1)))) := po_some (pe_un un_neg pe_int)
  refine wpAny_Slice (thn (po_none.run pins s1 σ H1 (fun o H2 => o = none ∧ H2 = H1) I1 ⟨rfl, rfl⟩) fun vl s2 ⟨l, H2, I2, pl, el, e2⟩ => ?_)
  subst el e2
  refine thn (po_none.run pins s2 σ H2 (fun o H3 => o = none ∧ H3 = H2) I2 ⟨rfl, rfl⟩) fun vu s3 ⟨u, H3, I3, pu, eu, e3⟩ => ?_
  subst eu e3
  refine thn (hst.run pins s3 σ H3 (fun o H4 => o = some (-1) ∧ H4 = H3) I3 ⟨1, rfl, -1, rfl, rfl, rfl⟩) fun vs s4 ⟨o, H4, I4, ps, eo, e4⟩ => ?_
  subst eo e4
  have I5 : Inv X pins σ H4 { s4 with heap := s4.heap.push { cls := .type "slice", data := .fields #[vl, vu, vs] } } := I4.kept (t' := s4.toks) fun b ob q => Heap.get?_push_of_some _ q
  rcases q1 with ⟨a, xs, ex, hx, q⟩ | ⟨a, xs, ex, hx, q⟩
  · subst ex
    cases r1
    obtain ⟨its, r, ht, hz⟩ := I5.list hx
    have hlen := r.length
    show wpAny (model X.prog X.w) X.A (subscriptTail e (.Slice none none (some (.UnaryOp .USub (.Constant (.int 1) k p1) p2)) p3) (.ref a) (.ref s4.heap.objs.size)) (EP X pins σ Q) X.xe { s4 with heap := s4.heap.push { cls := .type "slice", data := .fields #[vl, vu, vs] } }
    refine tail_any (ops := [.ref a, .ref s4.heap.objs.size]) ht.isList.typeIs (PySem.slot_list_getitem.lookup) ?_ (by with_unfolding_all rfl)
    refine wpAny_getItem_list_slice ht.isList (Heap.IsSliceOf.new _ vl vu vs) pl pu ps (by decide) ?_ (by rw [List.size_toArray]; omega)
    rw [PySem.W.krv_pick]
    refine ⟨.ref _, _, I5.laid (t' := s4.toks) (o := .lst xs.reverse) (fun b ob q => Heap.get?_push_of_some _ q) (Nat.le_refl _) ?_, rfl, q _ (I5.hok.fresh (Nat.le_refl _))⟩
    exact ⟨by rw [List.length_reverse]; exact hz, _, 0, r.reverse, Heap.get?_push_size _ rfl⟩
  · subst ex
    cases r1
    obtain ⟨its, r, ht, hz⟩ := I5.tuple hx
    have hlen := r.length
    show wpAny (model X.prog X.w) X.A (subscriptTail e (.Slice none none (some (.UnaryOp .USub (.Constant (.int 1) k p1) p2)) p3) (.ref a) (.ref s4.heap.objs.size)) (EP X pins σ Q) X.xe { s4 with heap := s4.heap.push { cls := .type "slice", data := .fields #[vl, vu, vs] } }
    refine tail_any (ops := [.ref a, .ref s4.heap.objs.size]) ht.typeIs (PyProof.Rows.slot_tuple_getitem.lookup) ?_ (by with_unfolding_all rfl)
    refine getItem_tuple_rev ht (Heap.IsSliceOf.new _ vl vu vs) pl pu ps ?_ (by rw [List.size_toArray]; omega)
    refine ⟨.ref _, _, I5.laid (t' := s4.toks) (o := .tup xs.reverse) (fun b ob q => Heap.get?_push_of_some _ q) (Nat.le_refl _) ?_, rfl, q _ (I5.hok.fresh (Nat.le_refl _))⟩
    exact ⟨by rw [List.length_reverse]; exact hz, _, r.reverse, IsTup.new _ _⟩
def revD : D → Option D
  | .lst l => some (.lst l.reverse)
  | .tup l => some (.tup l.reverse)
  | _ => none
theorem sf_rev {T : Ct} {G G1 : List Md} {e : Expr} {Ba : Option Nat} {m1 : M Opn} {k : Nat} {p1 p2 p3 pos : Pos} (ok : T.Ok) (he : SO T G e Ba G1 m1) (ka : okB G1 Ba = true := by rfl) :
    SF T G (.Subscript e (.Slice none none (some (.UnaryOp .USub (.Constant (.int 1) k p1) p2)) p3) pos) 0 G1 (eUn revD m1) := by
  have pr : Prim1 T.C (fun x H Q => (∃ a xs, x = .ref a ∧ SqL T.X.K H a xs ∧ ∀ p, H p = none → Q (.ref p) (upd H p (.lst xs.reverse))) ∨ ∃ a xs, x = .ref a ∧ SqT T.X.K H a xs ∧ ∀ p, H p = none → Q (.ref p) (upd H p (.tup xs.reverse))) revD := by
    intro F H d1 d x Q s h e q
    cases d1 <;> simp only [revD, reduceCtorEq, Option.some.injEq] at e
    case lst l =>
      subst e
      obtain ⟨p, xs, rfl, e1, r1, z1⟩ := h.lst s
      exact .inl ⟨p, xs, rfl, SqL.of e1, fun n hn => q _ _ _ _ (NewOk.lst hn r1.reverse (by rw [List.length_reverse]; exact z1))⟩
    case tup l =>
      subst e
      obtain ⟨p, xs, rfl, e1, r1, z1⟩ := h.tup s
      exact .inr ⟨p, xs, rfl, SqT.of e1, fun n hn => q _ _ _ _ (NewOk.tup s hn r1.reverse (by rw [List.length_reverse]; exact z1))⟩
  exact sf_op1 pr (pe_revA he) ka

/-! ### x[a:b] -/
def rP : RRel (Option Int) (Option Int) := fun a _ _ _ _ b fp => fp = [] ∧ a = b
def SP (T : Ct) (G : List Md) (e : Option Expr) (G' : List Md) (f : M (Option Int)) : Prop := PO T.X e (tG T G G' rP f)
def mPart (f : M D) : M (Option Int) := bindM f fun d => fun ρ => match d with
  | .int i => .ok (some i) ρ
  | _ => .bad
theorem POimp {X : Cx} {e : Option Expr} {t t' : TO} (h : PO X e t) (w : ∀ σ H Q, t' σ H Q → t σ H Q) : PO X e t' := ⟨fun pins s σ H Q I q => h.run pins s σ H Q I (w σ H Q q)⟩
section
variable {T : Ct} {G G1 G2 G3 G' : List Md}
theorem sp_none : SP T G none G (retM none) := POimp po_none fun σ H Q ⟨F, ρ, fps, ex, r, m⟩ => Rem.fin (fp := []) m (Ext.refl _ _ _) r ⟨rfl, rfl⟩
theorem sp_some {e : Expr} {f : M D} (h : SV T G e G' f) : SP T G (some e) G' (mPart f) := POimp (po_some h) fun σ H Q ⟨F, ρ, fps, ex, r0, m0⟩ => by
  refine seqR r0 m0 fun d x F1 H1 ρ1 fps1 fp1 e1 r1 z1 m1 => ?_
  obtain ⟨rfl, z1⟩ := z1
  cases d <;> first | exact m1.elim | skip
  case int i =>
    have q : x = .int i := by unfold Rep at z1; exact z1
    exact ⟨i, q, Rem.fin (fp := []) m1 (Ext.refl _ _ _) r1 ⟨rfl, rfl⟩⟩
end
def cutD {α : Type} (xs : List α) (lo hi : Option Int) : List α := (xs.drop (HT.sIx xs.length 0 lo)).take (HT.sIx xs.length xs.length hi - HT.sIx xs.length 0 lo)
def sliceD (lo hi : Option Int) : D → Option D
  | .lst l => some (.lst (cutD l lo hi))
  | .tup l => some (.tup (cutD l lo hi))
  | .tpx l => if HT.sIx l.length 0 lo = 0 ∧ HT.sIx l.length l.length hi = l.length then none else some (.tup (cutD l lo hi))
  | .str s => some (.str ⟨(cutD s.cps.toList lo hi).toArray⟩)
  | _ => none
def eSlice (m : M Opn) (a b : M (Option Int)) : M D := bindM m fun o => bindM a fun lo => bindM b fun hi => op1 (sliceD lo hi) o
theorem cutD_len {α : Type} (xs : List α) (lo hi : Option Int) : (cutD xs lo hi).length ≤ xs.length := by
  unfold cutD
  rw [List.length_take, List.length_drop]
  omega
theorem cut_rel {C : Cl} {F : Hp} {ds : List D} {xs : List V} (r : RepL C F ds xs) (lo hi : Option Int) : RepL C F (cutD ds lo hi) (cutV xs lo hi) := by
  unfold cutD cutV
  rw [← r.length]
  exact (r.drop _).take _
theorem cut_whole {α : Type} {xs : List α} {lo hi : Option Int} (h : HT.sIx xs.length 0 lo = 0 ∧ HT.sIx xs.length xs.length hi = xs.length) : cutD xs lo hi = xs := by
  unfold cutD
  rw [h.1, h.2]
  simp
def rSlAll (K : PySem.W.Frag) : V → Option Int → Option Int → Hp → VK → Prop := fun x lo hi H Q => (rSlL K x lo hi H Q ∨ rSlA K x lo hi H Q) ∨ rSlS x lo hi H Q
theorem sl_all {X : Cx} : SlR X (rSlAll X.K) := SlR.or (SlR.or sl_list sl_tupA) sl_str
theorem cutS_eq (z : Str) (lo hi : Option Int) : cutS z lo hi = ⟨(cutD z.cps.toList lo hi).toArray⟩ := by
  show (⟨((z.cps.toList.drop (HT.sIx z.length 0 lo)).take (HT.sIx z.length z.length hi - HT.sIx z.length 0 lo)).toArray⟩ : Str) = _
  unfold cutD
  have : z.cps.toList.length = z.length := by rw [Array.length_toList]; rfl
  rw [this]
theorem prim_slice {C : Cl} (lo hi : Option Int) : Prim1 C (fun x H Q => rSlAll C.K x lo hi H Q) (sliceD lo hi) := by
  intro F H d1 d x Q s h e q
  cases d1 <;> simp only [sliceD, reduceCtorEq, Option.some.injEq] at e
  case lst l =>
    subst e
    obtain ⟨p, xs, rfl, e1, r1, z1⟩ := h.lst s
    exact .inl (.inl ⟨p, xs, rfl, SqL.of e1, fun n hn => q _ _ _ _ (NewOk.lst hn (cut_rel r1 lo hi) (Nat.le_trans (cutD_len _ _ _) z1))⟩)
  case tup l =>
    subst e
    have hr := h.tupR
    obtain ⟨p, xs, rfl, e1, r1, z1⟩ := h.tup s
    refine .inl (.inr ⟨p, xs, rfl, SqT.of e1, fun hw => ?_, fun _ n hn => q _ _ _ _ (NewOk.tup s hn (cut_rel r1 lo hi) (Nat.le_trans (cutD_len _ _ _) z1))⟩)
    rw [← r1.length] at hw
    rw [cut_whole hw] at q
    exact q _ _ _ _ (NewOk.plain rfl hr)
  case tpx l =>
    split at e
    · cases e
    rename_i hno
    cases e
    obtain ⟨p, ob, xs, rfl, e1, _, r1, z1⟩ := h.tpx s
    refine .inl (.inr ⟨p, xs, rfl, sqT_fz e1, fun hw => ?_, fun _ n hn => q _ _ _ _ (NewOk.tup s hn (cut_rel r1 lo hi) (Nat.le_trans (cutD_len _ _ _) z1))⟩)
    rw [← r1.length] at hw
    exact absurd hw hno
  case str z =>
    subst e
    obtain ⟨rfl, hz, ok⟩ := h.str
    refine .inr ⟨z, rfl, hz, ?_⟩
    rw [cutS_eq]
    refine q _ _ _ _ (NewOk.plain rfl (rep_str ?_ ?_))
    · rw [← cutS_eq]; exact Nat.le_trans (cutS_length z lo hi) hz
    · rw [strOk_mem] at ok ⊢
      intro c hc
      refine ok c ?_
      have hc' : c ∈ cutD z.cps.toList lo hi := by simpa using hc
      unfold cutD at hc'
      exact List.mem_of_mem_drop (List.mem_of_mem_take hc')
section
variable {T : Ct} {G G1 G2 G3 G' : List Md}
theorem sf_slice {e : Expr} {lo hi : Option Expr} {p2 pos : Pos} {Ba : Option Nat} {m1 : M Opn} {a b : M (Option Int)} (ok : T.Ok) (he : SO T G e Ba G1 m1) (hl : SP T G1 lo G2 a) (hu : SP T G2 hi G3 b) (ka : okB G3 Ba = true := by rfl) :
    SF T G (.Subscript e (.Slice lo hi none p2) pos) 0 G3 (eSlice m1 a b) := PEimp (pe_slice sl_all he hl hu) fun σ H Q ⟨F, ρ, fps, ex, r0, m0⟩ => by
  refine seqR r0 m0 fun o x F1 H1 ρ1 fps1 fp1 e1 r1 z1 m1 => ?_
  obtain ⟨rfl, z1⟩ := z1
  refine seqR r1 m1 fun l l' F2 H2 ρ2 fps2 fp2 e2 r2 z2 m2 => ?_
  obtain ⟨rfl, rfl⟩ := z2
  refine seqR r2 m2 fun u u' F3 H3 ρ3 fps3 fp3 e3 r3 z3 m3 => ?_
  obtain ⟨rfl, rfl⟩ := z3
  unfold op1 at m3
  cases q1 : resO ρ3 o with
  | none => rw [q1] at m3; exact m3.elim
  | some d1 =>
    rw [q1] at m3
    dsimp only at m3
    cases q3 : sliceD l u d1 with
    | none => rw [q3] at m3; exact m3.elim
    | some d =>
      rw [q3] at m3
      have pr := prim_slice (C := T.C) l u
      rw [ok.hK] at pr
      refine pr F3 H3 d1 d x Q r3.sub (opd_of r3 ((z1.mono e2.e1).mono e3.e1) q1 ka) q3 fun v F' H' fp n => ?_
      obtain ⟨x1, x2⟩ := n.go r3
      exact Rem.fin m3 x1 x2 n.1
end

/-! ### in, not in -/
def memB (d e : D) : Option Bool := match e with
  | .lst l => (match toPy d, toPyL l with
    | some p, some ps => if p.depth ≤ 64 ∧ PyData.depthAll ps ≤ 60 then some (ps.any fun z => PyData.eqv z p) else none
    | _, _ => none)
  | .tup l => (match toPy d, toPyL l with
    | some p, some ps => if flatD d = true ∧ l.all flatD = true then some (ps.any fun z => PyData.eqv z p) else none
    | _, _ => none)
  | .tpx l => (match toPy d, toPyL l with
    | some p, some ps => if flatD d = true ∧ l.all flatD = true then some (ps.any fun z => PyData.eqv z p) else none
    | _, _ => none)
  | .str s => (match d with
    | .str x => some (!(Builtin.Str.occurrences s x 0 s.length 1).isEmpty)
    | _ => none)
  | .rng lo hi => (match d with
    | .int i => some (decide (lo ≤ i ∧ i < hi))
    | _ => none)
  | e => (lookD e d).map Option.isSome
where flatD : D → Bool
  | .non => true | .bl _ => true | .int _ => true | .str _ => true | _ => false

theorem flat_py {C : Cl} {F : Hp} {d : D} {v : V} (h : Rep C F d v) (k : memB.flatD d = true) : flatV v = true ∧ ∃ p, toPy d = some p := by
  cases d <;> simp only [memB.flatD, Bool.false_eq_true] at k
  case non => unfold Rep at h; subst h; exact ⟨rfl, _, rfl⟩
  case bl => unfold Rep at h; subst h; exact ⟨rfl, _, rfl⟩
  case int => unfold Rep at h; subst h; exact ⟨rfl, _, rfl⟩
  case str => unfold Rep at h; obtain ⟨rfl, _⟩ := h; exact ⟨rfl, _, rfl⟩
theorem eqv_flat {C : Cl} {F : Hp} {d e : D} {v u : V} {p q : PyData} (h : Rep C F d v) (k : memB.flatD d = true) (h' : Rep C F e u) (k' : memB.flatD e = true) (a : toPy d = some p) (b : toPy e = some q) : eqV v u = PyData.eqv p q := by
  cases d <;> simp only [memB.flatD, Bool.false_eq_true] at k <;> cases e <;> simp only [memB.flatD, Bool.false_eq_true] at k' <;> (unfold Rep at h h'; unfold toPy at a b; cases a; cases b; unfold PyData.eqv)
  all_goals (try subst h) <;> (try subst h') <;> (try (obtain ⟨rfl, _⟩ := h)) <;> (try (obtain ⟨rfl, _⟩ := h')) <;> rfl
theorem inV_any {C : Cl} {F : Hp} {d : D} {v : V} {p : PyData} (h : Rep C F d v) (k : memB.flatD d = true) (a : toPy d = some p) : ∀ {ds : List D} {xs : List V} {ps : List PyData}, RepL C F ds xs → ds.all memB.flatD = true → toPyL ds = some ps → xs.all flatV = true ∧ inV v xs = ps.any fun z => PyData.eqv z p
  | [], xs, ps, r, _, e => by unfold RepL at r; subst r; simp [toPyL] at e; subst e; exact ⟨rfl, rfl⟩
  | e :: ds, xs, ps, r, k', q => by
    unfold RepL at r
    obtain ⟨x, xr, rfl, h1, h2⟩ := r
    simp only [List.all_cons, Bool.and_eq_true] at k'
    unfold toPyL at q
    cases q1 : toPy e with
    | none => rw [q1] at q; simp at q
    | some p1 =>
      cases q2 : toPyL ds with
      | none => rw [q1, q2] at q; simp at q
      | some ps1 =>
        rw [q1, q2] at q
        simp at q; subst q
        obtain ⟨a1, a2⟩ := inV_any h k a h2 k'.2 q2
        refine ⟨by rw [List.all_cons, (flat_py h1 k'.1).1, a1]; rfl, ?_⟩
        show (eqV x v || inV v xr) = _
        rw [eqv_flat h1 k'.1 h k q1 a, a2]; rfl
/-- the values' side of in, not in -/
def rDInR (neg : Bool) : R2 := fun y x H Q => ∃ a o, x = .ref a ∧ DGet H a y o ∧ Q (.bl (if neg then !o.isSome else o.isSome)) H
theorem op_inDict {X : Cx} (hu : X.A.units + 1 < cLine) : OpR X (compareOp .In) (rDInR false) := by
  intro pins s σ H y x u v Q I ry rx h
  obtain ⟨a, o, rfl, g, q⟩ := h
  obtain rfl : v = Value.ref a := rx
  exact d_in hu I g ry fun s3 I3 => ⟨.bl o.isSome, H, I3, rfl, q⟩
theorem op_notInDict {X : Cx} (hu : X.A.units + 1 < cLine) : OpR X (compareOp .NotIn) (rDInR true) := by
  intro pins s σ H y x u v Q I ry rx h
  obtain ⟨a, o, rfl, g, q⟩ := h
  obtain rfl : v = Value.ref a := rx
  exact d_notIn hu I g ry fun s3 I3 => ⟨.bl (!o.isSome), H, I3, rfl, q⟩
def rInStr (neg : Bool) : R2 := fun x y H Q => ∃ i j, x = .str i ∧ y = .str j ∧ Q (.bl (if neg then !(!(Builtin.Str.occurrences j i 0 j.length 1).isEmpty) else !(Builtin.Str.occurrences j i 0 j.length 1).isEmpty)) H
def rInLst (K : PySem.W.Frag) (neg : Bool) : R2 := fun x y H Q => ∃ d ds, Dp K H x d ∧ Dp K H y (.list ds) ∧ SeqAt.shaped d = true ∧ SeqAt.shaped (.list ds) = true ∧ Q (.bl (if neg then !ds.any fun z => PyData.eqv z d else ds.any fun z => PyData.eqv z d)) H
def rInRng : R2 := fun x y H Q => ∃ i a lo hi, x = V.int i ∧ y = V.ref a ∧ H a = some (.rng lo hi) ∧ Q (.bl (decide (lo ≤ i ∧ i < hi))) H
def rInAll (K : PySem.W.Frag) (neg : Bool) : R2 := fun x y H Q => (rIn K neg x y H Q ∨ rInLst K neg x y H Q) ∨ (rDInR neg x y H Q ∨ rInStr neg x y H Q)
theorem op_inAll {X : Cx} (hu : X.A.units + 80 < cLine) : OpR X (compareOp .In) (rInAll X.K false) := OpR.or (OpR.or op_in_seq (op_inD (by omega))) (OpR.or (op_inDict (by omega)) op_in_str)
theorem op_notInAll {X : Cx} (hu : X.A.units + 80 < cLine) : OpR X (compareOp .NotIn) (rInAll X.K true) := OpR.or (OpR.or op_notIn_seq (op_notInD (by omega))) (OpR.or (op_notInDict (by omega)) op_notin_str)
def inB (neg : Bool) (d e : D) : Option D := match e with
  | .rng _ _ => none
  | e => (memB d e).map fun b => .bl (if neg then !b else b)
theorem depthAll_list (ps : List PyData) : (PyData.list ps).depth = PyData.depthAll ps + 1 := by unfold PyData.depth; rfl
theorem prim_in {C : Cl} {neg : Bool} : Prim2 C (rInAll C.K neg) (inB neg) := by
  intro F H d1 d2 d x y Q s h1 h2 e q
  have dict : ∀ o, lookD d2 d1 = some o → d = .bl (if neg then !o.isSome else o.isSome) → rInAll C.K neg x y H Q := fun o l ed => by
    obtain ⟨a, o', rfl, g, m⟩ := look_get s h2 h1 l
    have eo : o.isSome = o'.isSome := by
      cases o <;> cases o' <;> first | rfl | exact m.elim
    refine .inr (.inl ⟨a, o', rfl, g, ?_⟩)
    rw [← eo]
    subst ed
    exact q _ _ _ _ (NewOk.plain rfl rep_bl)
  cases d2
  case lst l =>
    unfold inB memB at e
    dsimp only at e
    cases q1 : toPy d1 with
    | none => rw [q1] at e; cases e
    | some p =>
      cases q2 : toPyL l with
      | none => rw [q1, q2] at e; cases e
      | some ps =>
        rw [q1, q2] at e
        dsimp only at e
        by_cases hc : p.depth ≤ 64 ∧ PyData.depthAll ps ≤ 60
        case neg => rw [if_neg hc] at e; cases e
        case pos =>
          rw [if_pos hc] at e
          cases e
          obtain ⟨a1, a2⟩ := dp_of d1 x p (h1.rep s) q1
          obtain ⟨b1, b2⟩ := dp_of (.lst l) y (.list ps) (h2.rep s) (by unfold toPy; rw [q2]; rfl)
          exact .inl (.inr ⟨p, ps, a1, b1, shaped_of a2 hc.1, shaped_of b2 (by rw [depthAll_list]; omega), q _ _ _ _ (NewOk.plain rfl rep_bl)⟩)
  case tup l =>
    unfold inB memB at e
    dsimp only at e
    cases q1 : toPy d1 with
    | none => rw [q1] at e; cases e
    | some p =>
      cases q2 : toPyL l with
      | none => rw [q1, q2] at e; cases e
      | some ps =>
        rw [q1, q2] at e
        dsimp only at e
        by_cases hc : memB.flatD d1 = true ∧ l.all memB.flatD = true
        case neg => rw [if_neg hc] at e; cases e
        case pos =>
          rw [if_pos hc] at e
          cases e
          obtain ⟨a, xs, rfl, e1, r1, z1⟩ := h2.tup s
          have hr := h1.rep s
          obtain ⟨i1, i2⟩ := inV_any hr hc.1 q1 (RepL.mono s _ _ r1) hc.2 q2
          refine .inl (.inl ⟨a, xs, rfl, .inr (SqT.of e1), (flat_py hr hc.1).1, i1, ?_⟩)
          rw [i2]
          exact q _ _ _ _ (NewOk.plain rfl rep_bl)
  case tpx l =>
    unfold inB memB at e
    dsimp only at e
    cases q1 : toPy d1 with
    | none => rw [q1] at e; cases e
    | some p =>
      cases q2 : toPyL l with
      | none => rw [q1, q2] at e; cases e
      | some ps =>
        rw [q1, q2] at e
        dsimp only at e
        by_cases hc : memB.flatD d1 = true ∧ l.all memB.flatD = true
        case neg => rw [if_neg hc] at e; cases e
        case pos =>
          rw [if_pos hc] at e
          cases e
          obtain ⟨a, ob, xs, rfl, e1, _, r1, z1⟩ := h2.tpx s
          have hr := h1.rep s
          obtain ⟨i1, i2⟩ := inV_any hr hc.1 q1 (RepL.mono s _ _ r1) hc.2 q2
          refine .inl (.inl ⟨a, xs, rfl, .inr (sqT_fz e1), (flat_py hr hc.1).1, i1, ?_⟩)
          rw [i2]
          exact q _ _ _ _ (NewOk.plain rfl rep_bl)
  case str z =>
    unfold inB memB at e
    cases d1 <;> simp only [Option.map_none, reduceCtorEq] at e
    case str a =>
      cases e
      rw [h1.str.1, h2.str.1]
      exact .inr (.inr ⟨a, z, rfl, rfl, q _ _ _ _ (NewOk.plain rfl rep_bl)⟩)
  case rng => cases e
  all_goals
    unfold inB memB at e
    dsimp only at e
    cases l : lookD _ d1 with
    | none => rw [l] at e; cases e
    | some o => rw [l] at e; cases e; exact dict o l rfl
/-! ### is None, is True .. -/
def isNB : D → Option D
  | .non => some (.bl true)
  | _ => some (.bl false)
def isNotNB : D → Option D
  | .non => some (.bl false)
  | _ => some (.bl true)
theorem rep_non_iff {C : Cl} {F : Hp} {d : D} {v : V} (h : Rep C F d v) : decide (v = .non) = (match d with | .non => true | _ => false) := by
  cases d <;> unfold Rep at h
  case non => subst h; rfl
  case bl => subst h; rfl
  case int => subst h; rfl
  case str => obtain ⟨rfl, _⟩ := h; rfl
  case tup => obtain ⟨a, xs, rfl, _⟩ := h; rfl
  case lst => obtain ⟨a, xs, rfl, _⟩ := h; rfl
  case dic => obtain ⟨a, xs, rfl, _⟩ := h; rfl
  case dct => obtain ⟨a, xs, rfl, _⟩ := h; rfl
  case obj => obtain ⟨a, A, dx, xs, rfl, _⟩ := h; rfl
  case scr => obtain ⟨a, rfl, _⟩ := h; rfl
  case rng => obtain ⟨a, rfl, _⟩ := h; rfl
  case tpx => obtain ⟨a, o, xs, rfl, _⟩ := h; rfl
theorem prim_isN {C : Cl} : Prim1 C (fun x H Q => Q (.bl (decide (x = .non))) H) isNB := by
  intro F H d1 d x Q s h e q
  show Q (.bl (decide (x = .non))) H
  rw [rep_non_iff (h.rep s)]
  cases d1 <;> (cases e; exact q _ _ _ _ (NewOk.plain rfl rep_bl))
theorem prim_notN {C : Cl} : Prim1 C (fun x H Q => Q (.bl (!decide (x = .non))) H) isNotNB := by
  intro F H d1 d x Q s h e q
  show Q (.bl (!decide (x = .non))) H
  rw [rep_non_iff (h.rep s)]
  cases d1 <;> (cases e; exact q _ _ _ _ (NewOk.plain rfl rep_bl))
def isB : D → D → Option D
  | .bl a, .bl b => some (.bl (decide (a = b)))
  | _, _ => none
def isNotB : D → D → Option D
  | .bl a, .bl b => some (.bl (!decide (a = b)))
  | _, _ => none
end DM
end
section
set_option autoImplicit false
set_option Elab.async false
set_option linter.all false
set_option maxRecDepth 100000
set_option maxHeartbeats 4000000
/-! DM12: constants, rows of values, displays, several targets, values by and, or, if. -/
namespace DM
open PySem PySem.Spec PyProof.Rows L2

section
variable {T : Ct} {G G1 G2 G3 G' : List Md} {F F1 F' H H1 H' : Hp} {U U1 : List Addr} {σ : Sl} {ρ : DEnv} {fps fps1 : List (List Addr)} {ex : List Addr} {C : Cl} {pin : List (Nat × V)} {pos : Pos}
theorem sv_bl {b : Bool} {j : Nat} : SV T G (.Constant (.bool b) j pos) G (eC (.bl b)) := PEimp pe_bl fun σ H Q ⟨F, ρ, fps, ex, r, m⟩ => Rem.fin (fp := []) m (Ext.refl _ _ _) r ⟨rfl, rep_bl⟩
theorem sv_non {j : Nat} : SV T G (.Constant .none j pos) G (eC .non) := PEimp pe_non fun σ H Q ⟨F, ρ, fps, ex, r, m⟩ => Rem.fin (fp := []) m (Ext.refl _ _ _) r ⟨rfl, rep_non⟩
theorem sv_str {x : Str} {j : Nat} (h : x.length ≤ sizeLine := by decide +kernel) (k : PyData.strOk x = true := by decide +kernel) : SV T G (.Constant (.str x) j pos) G (eC (.str x)) := PEimp pe_str fun σ H Q ⟨F, ρ, fps, ex, r, m⟩ => Rem.fin (fp := []) m (Ext.refl _ _ _) r ⟨rfl, rep_str h k⟩
/-- a plain value of an operation may be stored as frozen or as fresh -/
theorem RetR.mono {rk : Option Nat} {d : D} {v : V} {f : List Addr} (s : Sub F F') (k : ∀ a ∈ f, ∀ o, H a = some o → H' a = some o) (h : RetR C rk F H d v f) : RetR C rk F' H' d v f := by
  cases rk with
  | none => exact ⟨h.1, Rep.mono s d v h.2⟩
  | some n => exact Own.mono s _ d v f k h
/-- a row of values, each of its kind -/
def XV (C : Cl) (F H : Hp) : List (Option Nat) → List D → List V → List Addr → Prop
  | [], [], [], fp => fp = []
  | k :: ks, d :: ds, v :: vs, fp => ∃ f g, fp = f ++ g ∧ RetR C k F H d v f ∧ XV C F H ks ds vs g
  | _, _, _, _ => False
def rX (C : Cl) (ks : List (Option Nat)) : RRel (List D) (List V) := fun ds _ F H _ vs fp => XV C F H ks ds vs fp
def SX (T : Ct) (G : List Md) (es : List Expr) (ks : List (Option Nat)) (G' : List Md) (m : M (List D)) : Prop := PA T.X es (tG T G G' (rX T.C ks) m)
def xCons (f : M D) (m : M (List D)) : M (List D) := bindM f fun d => bindM m fun ds => retM (d :: ds)
theorem sx_nil : SX T G [] [] G (retM []) := PAimp pa_nil fun σ H Q ⟨F, ρ, fps, ex, r, m⟩ => Rem.fin (fp := []) m (Ext.refl _ _ _) r rfl
theorem sx_cons {e : Expr} {es : List Expr} {k : Option Nat} {ks : List (Option Nat)} {f : M D} {m : M (List D)} (he : PE T.X e (tG T G G1 (rrOf T.C k) f)) (hr : SX T G1 es ks G2 m) (hs : starEach (e :: es) T.X.env = (false, eval e T.X.env) :: starEach es T.X.env := by rfl) :
    SX T G (e :: es) (k :: ks) G2 (xCons f m) := PAimp (pa_cons he hr hs) fun σ H Q ⟨F, ρ, fps, ex, r0, m0⟩ => by
  refine seqU r0 m0 (fun a ha => ha) fun d x F1 H1 ρ1 fps1 fp1 e1 r1 z1 m1 => ?_
  refine seqU r1 m1 (fun a ha => List.mem_append_left _ (List.mem_append_right _ ha)) fun ds xs F2 H2 ρ2 fps2 fp2 e2 r2 z2 m2 => ?_
  have n1 := List.nodup_append.mp r1.nd
  have ap1 : ∀ a ∈ fp1, a ∉ fps1.flatten := fun a ha hz => n1.2.2 a (List.mem_append_left _ ha) a hz rfl
  refine RemU.fin (fp := fp1 ++ fp2) m2 (fun a ha => ?_) (r2.perm (fun a => ?_) ?_) ⟨fp1, fp2, rfl, z1.mono e2.e1 (fun a ha o e => e2.e2 a o e (ap1 a ha)), z2⟩
  · simp only [List.mem_append] at ha ⊢
    rcases ha with (z | z) | z
    · exact .inr (.inl (.inl z))
    · exact .inl (.inl z)
    · exact .inl (.inr z)
  · simp only [List.mem_append]
    constructor
    · rintro ((z | z) | z)
      · exact .inr (.inl z)
      · exact .inl z
      · exact .inr (.inr z)
    · rintro (z | z | z)
      · exact .inl (.inr z)
      · exact .inl (.inl z)
      · exact .inr z
  · have nn := List.nodup_append.mp r2.nd
    have n2 := List.nodup_append.mp nn.1
    have n3 := List.nodup_append.mp n2.2.1
    refine List.nodup_append.mpr ⟨List.nodup_append.mpr ⟨n3.1, n2.1, fun a ha b hb e => n2.2.2 b hb a (List.mem_append_left _ ha) e.symm⟩, n3.2.1, fun a ha b hb e => ?_⟩
    rcases List.mem_append.mp ha with z | z
    · exact n3.2.2 a z b hb e
    · exact n2.2.2 a z b (List.mem_append_right _ hb) e
theorem XV.lens : ∀ {ks : List (Option Nat)} {ds : List D} {vs : List V} {fp : List Addr}, XV C F H ks ds vs fp → ks.length = vs.length ∧ ds.length = vs.length
  | [], [], [], _, _ => ⟨rfl, rfl⟩
  | _ :: _, _ :: _, _ :: _, _, h => by
    obtain ⟨f, g, _, _, h⟩ := h
    obtain ⟨a, b⟩ := XV.lens h
    simp [a, b]
  | [], [], _ :: _, _, h => h.elim
  | [], _ :: _, _, _, h => h.elim
  | _ :: _, [], _, _, h => h.elim
  | _ :: _, _ :: _, [], _, h => h.elim
theorem XV.frozen : ∀ {ks : List (Option Nat)} {ds : List D} {vs : List V} {fp : List Addr}, XV C F H ks ds vs fp → ks.all (· == none) = true → fp = [] ∧ RepL C F ds vs
  | [], [], [], _, h, _ => ⟨h, RepL.nil⟩
  | k :: _, _ :: _, _ :: _, _, h, a => by
    obtain ⟨f, g, rfl, z, h⟩ := h
    simp only [List.all_cons, Bool.and_eq_true, beq_iff_eq] at a
    obtain ⟨rfl, a⟩ := a
    obtain ⟨rfl, h2⟩ := XV.frozen h a
    obtain ⟨rfl, z⟩ := z
    exact ⟨rfl, RepL.cons z h2⟩
  | [], [], _ :: _, _, h, _ => h.elim
  | [], _ :: _, _, _, h, _ => h.elim
  | _ :: _, [], _, _, h, _ => h.elim
  | _ :: _, _ :: _, [], _, h, _ => h.elim
theorem XV.owned {n : Nat} : ∀ {ks : List (Option Nat)} {ds : List D} {vs : List V} {fp : List Addr}, XV C F H ks ds vs fp → ks.all (· == some n) = true → OwnL (Own C F H (n + 1)) ds vs fp
  | [], [], [], _, h, _ => ⟨rfl, h⟩
  | k :: _, d :: _, v :: vs, _, h, a => by
    obtain ⟨f, g, e, z, h⟩ := h
    simp only [List.all_cons, Bool.and_eq_true, beq_iff_eq] at a
    obtain ⟨rfl, a⟩ := a
    exact ⟨v, vs, f, g, rfl, e, z, XV.owned h a⟩
  | [], [], _ :: _, _, h, _ => h.elim
  | [], _ :: _, _, _, h, _ => h.elim
  | _ :: _, [], _, _, h, _ => h.elim
  | _ :: _, _ :: _, [], _, h, _ => h.elim
/-- a plain scalar counts as owned to any depth -/
def scalD : D → Bool
  | .non => true | .bl _ => true | .int _ => true | .str _ => true | _ => false
def mPlain (f : M D) : M D := bindM f fun d => fun ρ => if scalD d = true then .ok d ρ else .bad
theorem own_scal {d : D} {v : V} (h : Rep C F d v) (k : scalD d = true) (n : Nat) : Own C F H (n + 1) d v [] := by
  cases d <;> simp only [scalD, Bool.false_eq_true] at k <;> exact ⟨rfl, h⟩
theorem sf_plain {e : Expr} {f : M D} {n : Nat} (h : SV T G e G' f) : SF T G e n G' (mPlain f) := PEimp h fun σ H Q ⟨F, ρ, fps, ex, r0, m0⟩ => by
  refine seqR (rr1 := rV T.C) r0 m0 fun d x F1 H1 ρ1 fps1 fp1 e1 r1 z1 m1 => ?_
  obtain ⟨rfl, z1⟩ := z1
  by_cases k : scalD d = true
  · simp only [if_pos k] at m1
    exact Rem.fin (fp := []) m1 (Ext.refl _ _ _) r1 (own_scal z1 k n)
  · simp only [if_neg k] at m1; exact m1.elim
/-! ### displays -/
def eTup (m : M (List D)) : M D := bindM m fun ds => retM (.tup ds)
def eLst (m : M (List D)) : M D := bindM m fun ds => retM (.lst ds)
theorem sf_tup {es : List Expr} {ks : List (Option Nat)} {m : M (List D)} {x1 : Nat} (h : SX T G es ks G' m) (a : ks.all (· == none) = true := by rfl) (l : ks.length ≤ 1000 := by decide) : SF T G (.Tuple es x1 pos) 0 G' (eTup m) := PEimp (pe_tup h) fun σ H Q ⟨F, ρ, fps, ex, r0, m0⟩ => by
  refine seqR r0 m0 fun ds xs F1 H1 ρ1 fps1 fp1 e1 r1 z1 m1 => ?_
  obtain ⟨l1, l2⟩ := z1.lens
  obtain ⟨rfl, hr⟩ := z1.frozen a
  have hz : xs.length ≤ sizeLine := by rw [← l1]; exact Nat.le_trans l (by decide)
  refine ⟨hz, fun p hp => ?_⟩
  have n : NewOk T.C F1 H1 (.tup ds) (.ref p) _ _ [] := NewOk.tup r1.sub hp hr (by omega)
  obtain ⟨x1, x2⟩ := n.go r1
  exact Rem.fin m1 x1 x2 n.1
theorem sf_lst {es : List Expr} {ks : List (Option Nat)} {m : M (List D)} (h : SX T G es ks G' m) (a : ks.all (· == none) = true := by rfl) (l : ks.length ≤ 1000 := by decide) : SF T G (.List es pos) 0 G' (eLst m) := PEimp (pe_lst h) fun σ H Q ⟨F, ρ, fps, ex, r0, m0⟩ => by
  refine seqR r0 m0 fun ds xs F1 H1 ρ1 fps1 fp1 e1 r1 z1 m1 => ?_
  obtain ⟨l1, l2⟩ := z1.lens
  obtain ⟨rfl, hr⟩ := z1.frozen a
  have hz : xs.length ≤ sizeLine := by rw [← l1]; exact Nat.le_trans l (by decide)
  refine ⟨hz, fun p hp => ?_⟩
  have n : NewOk T.C F1 H1 (.lst ds) (.ref p) _ _ [p] := NewOk.lst hp hr (by omega)
  obtain ⟨x1, x2⟩ := n.go r1
  exact Rem.fin m1 x1 x2 n.1
/-- *e in a display: its members are frozen -/
def memsD : D → Option (List D)
  | .lst l => some l
  | .tup l => some l
  | _ => none
end
/-! ### truth -/
def truD : D → Option Bool
  | .non => some false
  | .bl b => some b
  | .int i => some (i != 0)
  | .str s => some ((s.length : Int) != 0)
  | .lst l => some (!l.isEmpty)
  | .tup l => some (!l.isEmpty)
  | _ => none
theorem RepL.isEmpty {C : Cl} {F : Hp} {ds : List D} {xs : List V} (r : RepL C F ds xs) : ds.isEmpty = xs.isEmpty := by
  have := r.length
  cases ds <;> cases xs <;> simp_all
theorem tru_of {C : Cl} {F H : Hp} {d : D} {v : V} {b : Bool} (s : Sub F H) (h : Opd C F H d v) (e : truD d = some b) : TruV C.K v H b := by
  cases d <;> simp only [truD, reduceCtorEq, Option.some.injEq] at e
  case non => rw [h.non]; exact e.symm
  case bl => rw [h.bl]; exact e.symm
  case int => rw [h.int]; exact e.symm
  case str => obtain ⟨rfl, hz, _⟩ := h.str; exact ⟨hz, e.symm⟩
  case tup =>
    obtain ⟨a, xs, rfl, h1, h2, _⟩ := h.tup s
    exact .inr (.inl ⟨xs, SqT.of h1, by rw [← e, h2.isEmpty]⟩)
  case lst =>
    obtain ⟨a, xs, rfl, h1, h2, _⟩ := h.lst s
    exact .inl ⟨xs, SqL.of h1, by rw [← e, h2.isEmpty]⟩
def tTru (m : M Opn) : M Bool := bindM m fun o => fun ρ => match resO ρ o with
  | some d => (match truD d with
    | some b => .ok b ρ
    | none => .bad)
  | none => .bad
def eOr (f g : M D) : M D := bindM f fun d => fun ρ => match truD d with
  | some true => .ok d ρ
  | some false => g ρ
  | none => .bad
def eAnd (f g : M D) : M D := bindM f fun d => fun ρ => match truD d with
  | some true => g ρ
  | some false => .ok d ρ
  | none => .bad
def eNot (m : M Opn) : M D := bindM m (op1 fun d => (truD d).map fun b => .bl (!b))
def eIf (c : M Bool) (f g : M D) : M D := bindM c fun b => if b = true then f else g
section
variable {T : Ct} {G G1 G2 G3 G' : List Md} {pos : Pos} {a b c : Expr} {rest : List Expr}
theorem sv_one {op : BoolOp} {f : M D} (h : SV T G a G' f) : SV T G (.BoolOp op [a] pos) G' f := pe_one h
theorem sv_or {f g : M D} (ok : T.Ok) (ha : SV T G a G1 f) (hb : SV T G1 (.BoolOp .Or (b :: rest) pos) G1 g) : SV T G (.BoolOp .Or (a :: b :: rest) pos) G1 (eOr f g) := PEimp (pe_orT ha hb) fun σ H Q ⟨F, ρ, fps, ex, r0, m0⟩ => by
  refine seqR r0 m0 fun d x F1 H1 ρ1 fps1 fp1 e1 r1 z1 m1 => ?_
  obtain ⟨rfl, z1⟩ := z1
  cases q2 : truD d with
  | none => simp only [q2] at m1; exact m1.elim
  | some b =>
    simp only [q2] at m1
    have t := tru_of r1.sub (.inl z1) q2
    rw [ok.hK] at t
    refine ⟨b, t, ?_⟩
    cases b with
    | true => exact Rem.fin (fp := []) m1 (Ext.refl _ _ _) r1 ⟨rfl, z1⟩
    | false => exact ⟨F1, ρ1, fps1, _, r1, m1⟩
theorem sv_and {f g : M D} (ok : T.Ok) (ha : SV T G a G1 f) (hb : SV T G1 (.BoolOp .And (b :: rest) pos) G1 g) : SV T G (.BoolOp .And (a :: b :: rest) pos) G1 (eAnd f g) := PEimp (pe_andT ha hb) fun σ H Q ⟨F, ρ, fps, ex, r0, m0⟩ => by
  refine seqR r0 m0 fun d x F1 H1 ρ1 fps1 fp1 e1 r1 z1 m1 => ?_
  obtain ⟨rfl, z1⟩ := z1
  cases q2 : truD d with
  | none => simp only [q2] at m1; exact m1.elim
  | some b =>
    simp only [q2] at m1
    have t := tru_of r1.sub (.inl z1) q2
    rw [ok.hK] at t
    refine ⟨b, t, ?_⟩
    cases b with
    | false => exact Rem.fin (fp := []) m1 (Ext.refl _ _ _) r1 ⟨rfl, z1⟩
    | true => exact ⟨F1, ρ1, fps1, _, r1, m1⟩
theorem px_if {k : Option Nat} {f : M Bool} {g h : M D} (hc : ST T G c G1 f) (ha : PE T.X a (tG T G1 G2 (rrOf T.C k) g)) (hb : PE T.X b (tG T G1 G2 (rrOf T.C k) h)) : PE T.X (.IfExp c a b pos) (tG T G G2 (rrOf T.C k) (eIf f g h)) := PEimp (pe_ifExp hc ha hb) fun σ H Q ⟨F, ρ, fps, ex, r0, m0⟩ => by
  refine seqR r0 m0 fun d x F1 H1 ρ1 fps1 fp1 e1 r1 z1 m1 => ?_
  obtain ⟨rfl, rfl⟩ := z1
  cases d with
  | true => exact ⟨F1, ρ1, fps1, _, r1, m1⟩
  | false => exact ⟨F1, ρ1, fps1, _, r1, m1⟩
theorem sv_if {f : M Bool} {g h : M D} (hc : ST T G c G1 f) (ha : SV T G1 a G2 g) (hb : SV T G1 b G2 h) : SV T G (.IfExp c a b pos) G2 (eIf f g h) := px_if (k := none) hc ha hb
end
end DM
end
section
set_option autoImplicit false
set_option Elab.async false
set_option linter.all false
set_option maxRecDepth 100000
set_option maxHeartbeats 4000000
/-! DM13: targets, what is walked, for, while. -/
namespace DM
open PySem PySem.Spec PyProof.Rows L2

/-! ### targets -/
abbrev Bd := D → DEnv → Option DEnv
def bName (i : Nat) : Bd := fun d ρ => some (ρ.set i (some d))
def bAll : List Bd → List D → DEnv → Option DEnv
  | [], [], ρ => some ρ
  | b :: bs, d :: ds, ρ => (match b d ρ with
    | some ρ1 => bAll bs ds ρ1
    | none => none)
  | _, _, _ => none
def bTup (bs : List Bd) : Bd := fun d ρ => match d with
  | .tup ds => bAll bs ds ρ
  | _ => none
theorem wipe_set {v : Option V} : ∀ {vs : List Nat} {σ : Sl} {i : Nat}, i ∈ vs → wipe (σ.set i v) vs = wipe σ vs
  | [], _, _, h => by cases h
  | w :: vs, σ, i, h => by
    show (wipe (σ.set i v) vs).set w none = (wipe σ vs).set w none
    by_cases hi : i ∈ vs
    · rw [wipe_set hi]
    · have e : i = w := by
        rcases List.mem_cons.mp h with z | z
        · exact z
        · exact absurd z hi
      subst e
      have aux : ∀ (us : List Nat) (σ : Sl), (wipe (σ.set i v) us).set i none = (wipe σ us).set i none := by
        intro us
        induction us with
        | nil => intro σ; show (σ.set i v).set i none = σ.set i none; rw [List.set_set]
        | cons u us ih =>
          intro σ
          show ((wipe (σ.set i v) us).set u none).set i none = ((wipe σ us).set u none).set i none
          by_cases hu : u = i
          · subst hu; rw [List.set_set, List.set_set]; exact ih σ
          · rw [List.set_comm none none hu, ih σ, ← List.set_comm none none hu]
      exact aux vs σ
/-- a target, for frozen values; is: the places that it writes -/
def SG (T : Ct) (G : List Md) (tg : Expr) (is : List Nat) (G' : List Md) (b : Bd) (g : TG) : Prop := PG T.X tg g ∧ ∀ (v : V) (σ : Sl) (F H : Hp) (ρ ρ' : DEnv) (fps : List (List Addr)) (ex : List Addr) (d : D) (Q : Sl → Hp → Prop),
  Rel T.C T.pin G F H σ ρ fps ex → Rep T.C F d v → b d ρ = some ρ' → (∀ σ' fps', (∀ a ∈ fps'.flatten, a ∈ fps.flatten) → Rel T.C T.pin G' F H σ' ρ' fps' ex → (∀ vs : List Nat, (∀ i ∈ is, i ∈ vs) → wipe σ' vs = wipe σ vs) → Q σ' H) → g v σ H Q
def SGs (T : Ct) (G : List Md) (tgs : List Expr) (is : List Nat) (G' : List Md) (bs : List Bd) (g : TGs) : Prop := PGs T.X tgs g ∧ ∀ (vs : List V) (σ : Sl) (F H : Hp) (ρ ρ' : DEnv) (fps : List (List Addr)) (ex : List Addr) (ds : List D) (Q : Sl → Hp → Prop),
  Rel T.C T.pin G F H σ ρ fps ex → RepL T.C F ds vs → bAll bs ds ρ = some ρ' → (∀ σ' fps', (∀ a ∈ fps'.flatten, a ∈ fps.flatten) → Rel T.C T.pin G' F H σ' ρ' fps' ex → (∀ vs : List Nat, (∀ i ∈ is, i ∈ vs) → wipe σ' vs = wipe σ vs) → Q σ' H) → g vs σ H Q
section
variable {T : Ct} {G G1 G2 G' : List Md} {pos : Pos}
theorem sg_name {i : Nat} {x : Str} (hN : T.X.N.Nodup) (hi : T.X.N[i]? = some x) (hx : Loc T.X.env.scope x) (hl : T.X.N.length = G.length) (hp : ∀ p ∈ T.pin, p.1 ≠ i) (hf : T.X.fn x = true ∨ T.X.env.scope.names.lookup x = some .local := by first | exact .inl rfl | exact .inr rfl | assumption) :
    SG T G (.Name x pos) [i] (G.set i .fz) (bName i) (gName i) := by
  refine ⟨pg_name hN hi hx hf, fun v σ F H ρ ρ' fps ex d Q r z e q => ?_⟩
  cases e
  have hil : i < ρ.length := by rw [← r.lg, ← hl]; exact (List.getElem?_eq_some_iff.mp hi).1
  exact q _ (fps.set i []) (fun a ha => (flatten_set_sub ha).elim (fun z => nomatch z) id) (r.store (f := []) (md := .fz) hil hp ⟨rfl, z⟩) fun vs h => wipe_set (h i List.mem_cons_self)
theorem sgs_nil : SGs T G [] [] G [] gNil := by
  refine ⟨pgs_nil, fun vs σ F H ρ ρ' fps ex ds Q r z e q => ?_⟩
  cases ds with
  | nil =>
    unfold RepL at z
    cases e
    exact ⟨z, q σ fps (fun _ h => h) r fun _ _ => rfl⟩
  | cons d ds => cases e
theorem sgs_cons {t : Expr} {ts : List Expr} {is js : List Nat} {b : Bd} {bs : List Bd} {g1 : TG} {g2 : TGs} (h1 : SG T G t is G1 b g1) (h2 : SGs T G1 ts js G2 bs g2) (hs : (assignEach (t :: ts) T.X.env).map (·.2) = assign t T.X.env :: (assignEach ts T.X.env).map (·.2) := by rfl) :
    SGs T G (t :: ts) (is ++ js) G2 (b :: bs) (gCons g1 g2) := by
  obtain ⟨p1, k1⟩ := h1
  obtain ⟨p2, k2⟩ := h2
  refine ⟨pgs_cons p1 p2 hs, fun vs σ F H ρ ρ' fps ex ds Q r z e q => ?_⟩
  cases ds with
  | nil => cases e
  | cons d ds =>
    unfold RepL at z
    obtain ⟨x, xs, rfl, z1, z2⟩ := z
    unfold bAll at e
    cases eb : b d ρ with
    | none => rw [eb] at e; cases e
    | some ρ1 =>
      rw [eb] at e
      refine ⟨x, xs, rfl, k1 x σ F H ρ ρ1 fps ex d _ r z1 eb fun σ1 fps1 s1 r1 w1 => ?_⟩
      refine k2 xs σ1 F H ρ1 ρ' fps1 ex ds Q r1 z2 e fun σ2 fps2 s2 r2 w2 => ?_
      exact q σ2 fps2 (fun a ha => s1 a (s2 a ha)) r2 fun us h => (w2 us fun i hi => h i (List.mem_append_right _ hi)).trans (w1 us fun i hi => h i (List.mem_append_left _ hi))
theorem sg_tup {es : List Expr} {k : Nat} {is : List Nat} {bs : List Bd} {n : Nat} {g : TGs} (hc : T.X.calm = true) (h : SGs T G es is G' bs g) (hb : bs.length = n) (hn : (assignEach es T.X.env).length = n := by rfl) (hst : (assignEach es T.X.env).findIdx? (·.1) = none := by rfl) : SG T G (.Tuple es k pos) is G' (bTup bs) (gTup T.X.K n g) := by
  obtain ⟨p, kk⟩ := h
  refine ⟨pg_tup hc p hn hst, fun v σ F H ρ ρ' fps ex d Q r z e q => ?_⟩
  cases d <;> first | (cases e; done) | skip
  case tup ds =>
    unfold Rep at z
    obtain ⟨a, xs, rfl, h1, h2, _⟩ := z
    have len : ∀ {bs : List Bd} {ds : List D} {ρ ρ' : DEnv}, bAll bs ds ρ = some ρ' → bs.length = ds.length := by
      intro bs
      induction bs with
      | nil => intro ds ρ ρ' e; cases ds with
        | nil => rfl
        | cons => cases e
      | cons b bs ih => intro ds ρ ρ' e; cases ds with
        | nil => cases e
        | cons d ds =>
          unfold bAll at e
          cases eb : b d ρ with
          | none => rw [eb] at e; cases e
          | some ρ1 => rw [eb] at e; simp [ih e]
    exact ⟨a, xs, rfl, SqT.of (r.sub _ _ h1), by rw [← h2.length, ← len e]; exact hb, kk xs σ F H ρ ρ' fps ex ds Q r h2 e q⟩
end

/-! ### what is walked -/
def ItemOk (C : Cl) (F H : Hp) (d : D) (x : V) (H' : Hp) : Prop := (H' = H ∧ Rep C F d x) ∨ ∃ p o, H p = none ∧ H' = upd H p o ∧ Rep C (upd F p o) d x
/-- S: what stays as it is while the walk goes -/
def Walks (C : Cl) (F : Hp) (S : Hp) (J : It) (ds : List D) : Prop := ∀ (F' H' : Hp) (i : Nat), Sub S H' → Sub F F' → Sub F' H' → (∀ d, ds[i]? = some d → J.go i H' ∧ ∀ x H2, J.yld i H' x H2 → ItemOk C F' H' d x H2) ∧ (ds.length ≤ i → J.stop i H')
def rI (C : Cl) : RRel (List D) It := fun ds _ F H U J fp => fp = [] ∧ ds.length ≤ sizeLine ∧ ∃ S, Sub S H ∧ (∀ a o, S a = some o → a ∉ U) ∧ Walks C F S J ds
def SI (T : Ct) (G : List Md) (tg iter : Expr) (G' : List Md) (m : M (List D)) : Prop := PI T.X tg iter (tG T G G' (rI T.C) m)
theorem PIimp {X : Cx} {tg e : Expr} {t t' : TI} (h : PI X tg e t) (w : ∀ σ H R, t' σ H R → t σ H R) : PI X tg e t' := ⟨fun pins s σ H R I q => h.run pins s σ H R I (w σ H R q)⟩
def iAny (K : PySem.W.Frag) (tl : TE) : TI := fun σ H R => tl σ H fun x H1 => (∃ a xs, x = .ref a ∧ SqL K H1 a xs ∧ R (Itl K a) H1) ∨ (∃ a xs, x = .ref a ∧ SqT K H1 a xs ∧ R (Itt K a) H1) ∨ ∃ z, x = .str z ∧ R (Its z) H1
theorem pi_any {X : Cx} {tg l : Expr} {tl : TE} (hl : PE X l tl) : PI X tg l (iAny X.K tl) := by
  refine ⟨fun pins s σ H R I h => ?_⟩
  refine thn (hl.run pins s σ H _ I h) fun v s1 ⟨x, H1, I1, r1, q1⟩ => ?_
  rcases q1 with ⟨a, xs, e, hq, q⟩ | ⟨a, xs, e, hq, q⟩ | ⟨z, e, q⟩
  · subst e
    cases r1
    obtain ⟨its, rv, p, hz⟩ := I1.list hq
    refine wpAny_pyIter_list p.isList ?_
    refine ⟨s1.heap.objs.size, [s1.heap.objs.size], _, _, H1, rfl, I1.kept (t' := s1.toks) fun b o e => Heap.get?_push_of_some _ e, turn_list a _, ⟨_, Heap.get?_push_size _ rfl, rfl, rfl⟩, fun b hb => ?_, q⟩
    have e : b = s1.heap.objs.size := by simpa using hb
    subst e
    exact I1.fpOk (Nat.le_refl _) (I1.hok.fresh (Nat.le_refl _))
  · subst e
    cases r1
    obtain ⟨its, rv, p, hz⟩ := I1.tuple hq
    refine wpAny_pyIter_tuple (show s1.heap.IsTuple a its.toArray from p) ?_
    refine ⟨s1.heap.objs.size, [s1.heap.objs.size], _, _, H1, rfl, I1.kept (t' := s1.toks) fun b o e => Heap.get?_push_of_some _ e, turn_tuple a _, ⟨_, Heap.get?_push_size _ rfl, rfl, rfl⟩, fun b hb => ?_, q⟩
    have e : b = s1.heap.objs.size := by simpa using hb
    subst e
    exact I1.fpOk (Nat.le_refl _) (I1.hok.fresh (Nat.le_refl _))
  · subst e
    obtain ⟨t, rfl⟩ := r1
    cases ha : z.cps.all (· < 128)
    · exact wpAny_pyIter_wide ha (pi_one (tk := s1.toks) I1 _ (turn_str _ z t "str_iterator" (.inr rfl)) ⟨_, Heap.get?_push_size _ rfl, rfl, rfl⟩ q)
    · exact wpAny_pyIter_ascii ha (pi_one (tk := s1.toks) I1 _ (turn_str _ z t "str_ascii_iterator" (.inl rfl)) ⟨_, Heap.get?_push_size _ rfl, rfl, rfl⟩ q)
/-- the items of a value that is walked -/
def itemsD : D → Option (List D)
  | .lst l => some l
  | .tup l => some l
  | .tpx l => some l
  | .str s => some (s.cps.toList.map fun c => .str ⟨#[c]⟩)
  | .scr ns => some (ns.map .int)
  | _ => none
def mItems (m : M Opn) : M (List D) := bindM m fun o => fun ρ => match resO ρ o with
  | some d => (match itemsD d with
    | some ds => .ok ds ρ
    | none => .bad)
  | none => .bad
section
variable {C : Cl} {F H : Hp}
theorem walks_list {a : Addr} {xs : List V} {ds : List D} {S : Hp} (h : SqL C.K S a xs) (r : RepL C F ds xs) : Walks C F S (Itl C.K a) ds := fun F' H' i hS hF hH => by
  have h' := hS.sqL h
  refine ⟨fun d e => ?_, fun hi => ⟨xs, h', by rw [← r.length]; exact hi⟩⟩
  obtain ⟨x, hx, z⟩ := r.get e
  refine ⟨⟨xs, x, h', hx⟩, fun y H2 ⟨e2, k⟩ => .inl ⟨e2, ?_⟩⟩
  have := k xs h'
  rw [hx] at this; cases this
  exact Rep.mono hF d x z
theorem walks_tup {a : Addr} {xs : List V} {ds : List D} {S : Hp} (h : SqT C.K S a xs) (r : RepL C F ds xs) : Walks C F S (Itt C.K a) ds := fun F' H' i hS hF hH => by
  have h' := hS.sqT h
  refine ⟨fun d e => ?_, fun hi => ⟨xs, h', by rw [← r.length]; exact hi⟩⟩
  obtain ⟨x, hx, z⟩ := r.get e
  refine ⟨⟨xs, x, h', hx⟩, fun y H2 ⟨e2, k⟩ => .inl ⟨e2, ?_⟩⟩
  have := k xs h'
  rw [hx] at this; cases this
  exact Rep.mono hF d x z
theorem rep_scr : ∀ ns : List Int, RepL C F (ns.map .int) (ns.map V.int)
  | [] => RepL.nil
  | n :: ns => RepL.cons rep_int (rep_scr ns)
end
end DM
end
section
set_option autoImplicit false
set_option Elab.async false
set_option linter.all false
set_option maxRecDepth 100000
set_option maxHeartbeats 4000000
/-! DM14: iterables, for, while, comprehensions. -/
namespace DM
open PySem PySem.Spec PyProof.Rows L2

def okW (G : List Md) : Option Nat → Bool
  | none => true
  | some i => match G.getD i .fz with
    | .ow _ => false
    | _ => true
/-- a list, a tuple, .. at hand, to be walked: what stays -/
theorem stays {C : Cl} {pin : List (Nat × V)} {G : List Md} {F H : Hp} {σ : Sl} {ρ : DEnv} {fps : List (List Addr)} {ex : List Addr} {B : Option Nat} {o : Opn} {d : D} {v : V} (r : Rel C pin G F H σ ρ fps ex) (h : OpdV C F σ B o v) (e : resO ρ o = some d) (k : okW G B = true) :
    ∃ S, Sub S H ∧ Sub F S ∧ (∀ a u, S a = some u → a ∉ fps.flatten) ∧ Opd C F S d v := by
  have base : ∃ S, Sub S H ∧ Sub F S ∧ (∀ a u, S a = some u → a ∉ fps.flatten) ∧ S = F := ⟨F, r.sub, Sub.refl F, (fun a u e z => by rw [r.out a (List.mem_append_right _ z)] at e; cases e), rfl⟩
  cases o with
  | val d' =>
    cases e
    obtain ⟨S, h1, h2, h3, rfl⟩ := base
    exact ⟨S, h1, h2, h3, .inl h.2⟩
  | bor i =>
    obtain ⟨rfl, hs⟩ := h
    obtain ⟨v', fp, e1, e2, z⟩ := r.slot i d (join_some e)
    rw [hs] at e1; cases e1
    cases q : G.getD i .fz with
    | fz =>
      rw [q] at z
      obtain ⟨S, h1, h2, h3, rfl⟩ := base
      exact ⟨S, h1, h2, h3, .inl z.2⟩
    | bo =>
      rw [q] at z
      rcases z.2 with z | ⟨g, z, n⟩
      · obtain ⟨S, h1, h2, h3, rfl⟩ := base
        exact ⟨S, h1, h2, h3, .inl z⟩
      · refine ⟨frz F H g, fun a u e => ?_, fun a u e => ?_, fun a u e => ?_, .inr ⟨g, Own.mono (Sub.refl F) 1 d v g (fun a ha u e => by rw [frz_in ha]; exact e) z⟩⟩
        · by_cases ha : a ∈ g
          · rw [frz_in ha] at e; exact e
          · rw [frz_out ha] at e; exact r.sub a u e
        · by_cases ha : a ∈ g
          · rw [frz_in ha]; exact r.sub a u e
          · rw [frz_out ha]; exact e
        · intro hz
          by_cases ha : a ∈ g
          · exact n a ha (List.mem_append_right _ hz)
          · rw [frz_out ha, r.out a (List.mem_append_right _ hz)] at e; cases e
    | ow n => simp only [okW, q] at k; cases k
section
variable {T : Ct} {G G1 G2 G' : List Md} {pos : Pos}
theorem si_any {tg e : Expr} {B : Option Nat} {m : M Opn} (ok : T.Ok) (h : SO T G e B G' m) (k : okW G' B = true := by rfl) : SI T G tg e G' (mItems m) := PIimp (pi_any h) fun σ H R ⟨F, ρ, fps, ex, r0, m0⟩ => by
  refine seqR r0 m0 fun o x F1 H1 ρ1 fps1 fp1 e1 r1 z1 m1 => ?_
  obtain ⟨rfl, z1⟩ := z1
  cases q1 : resO ρ1 o with
  | none => simp only [q1] at m1; exact m1.elim
  | some d =>
    simp only [q1] at m1
    cases q2 : itemsD d with
    | none => simp only [q2] at m1; exact m1.elim
    | some ds =>
      simp only [q2] at m1
      obtain ⟨S, s1, s2, s3, op⟩ := stays r1 z1 q1 k
      have fin : ∀ {J : It}, ds.length ≤ sizeLine → Walks T.C F1 S J ds → R J H1 := fun l w => Rem.fin (fp := []) m1 (Ext.refl _ _ _) r1 ⟨rfl, l, S, s1, s3, w⟩
      rw [← ok.hK]
      cases d <;> simp only [itemsD, reduceCtorEq, Option.some.injEq] at q2
      case lst l =>
        subst q2
        obtain ⟨a, xs, rfl, h1, h2, h3⟩ := op.lst s2
        exact .inl ⟨a, xs, rfl, SqL.of (s1 _ _ h1), fin h3 (walks_list (SqL.of h1) h2)⟩
      case tup l =>
        subst q2
        obtain ⟨a, xs, rfl, h1, h2, h3⟩ := op.tup s2
        exact .inr (.inl ⟨a, xs, rfl, SqT.of (s1 _ _ h1), fin h3 (walks_tup (SqT.of h1) h2)⟩)
      case tpx l =>
        subst q2
        obtain ⟨a, ob, xs, rfl, h1, _, h2, h3⟩ := op.tpx s2
        exact .inr (.inl ⟨a, xs, rfl, sqT_fz (s1 _ _ h1), fin h3 (walks_tup (sqT_fz h1) h2)⟩)
      case str z =>
        subst q2
        obtain ⟨rfl, hz, ok'⟩ := op.str
        refine .inr (.inr ⟨z, rfl, fin (by rw [List.length_map]; exact hz) fun F' H' i hS hF hH => ⟨fun d e => ?_, fun hi => ?_⟩⟩)
        · rw [List.getElem?_map, Array.getElem?_toList] at e
          cases q : z.cps[i]? with
          | none => rw [q] at e; cases e
          | some c =>
            rw [q] at e
            cases e
            refine ⟨(Array.getElem?_eq_some_iff.mp q).1, fun x H2 ⟨e1, c', hc, ex⟩ => .inl ⟨e1, ?_⟩⟩
            rw [q] at hc; cases hc
            subst ex
            exact rep_str (by show (1 : Nat) ≤ _; decide) (strOk_one ok' (by
              have := List.mem_of_getElem? (l := z.cps.toList) (i := i) (a := c) (by rw [Array.getElem?_toList]; exact q)
              exact this))
        · show z.cps.size ≤ i
          simpa using hi
      case scr ns =>
        subst q2
        obtain ⟨a, rfl, h1, h3⟩ := op.scr s2
        have h2 := s1.sqL h1
        exact .inl ⟨a, _, rfl, h2, fin (by rw [List.length_map]; exact h3) (walks_list h1 (rep_scr ns))⟩
/-! ranges -/
def rangeD (lo : Int) (n : Nat) : List D := (List.range n).map fun (i : Nat) => .int (lo + (i : Int))
theorem walks_range {C : Cl} {F S : Hp} (lo : Int) (n : Nat) : Walks C F S (Itr lo n) (rangeD lo n) := fun F' H' i hS hF hH => by
  refine ⟨fun d e => ?_, fun hi => by rw [rangeD, List.length_map, List.length_range] at hi; exact hi⟩
  have hi : i < n := by
    have := (List.getElem?_eq_some_iff.mp e).1
    simpa [rangeD] using this
  refine ⟨hi, fun x H2 ⟨e1, ex⟩ => .inl ⟨e1, ?_⟩⟩
  have ed : d = .int (lo + i) := by
    rw [rangeD, List.getElem?_map, List.getElem?_range hi] at e
    cases e; rfl
  subst ed ex
  exact rep_int
def d1 : List D → Option Int
  | [.int j] => some j
  | _ => none
def d2 : List D → Option (Int × Int)
  | [.int i, .int j] => some (i, j)
  | _ => none
theorem d1_eq {ds : List D} {j : Int} (h : d1 ds = some j) : ds = [.int j] := by
  unfold d1 at h; split at h <;> first | (cases h; rfl) | cases h
theorem d2_eq {ds : List D} {p : Int × Int} (h : d2 ds = some p) : ds = [.int p.1, .int p.2] := by
  unfold d2 at h; split at h <;> first | (cases h; rfl) | cases h
def okR (i j : Int) : Bool := decide (i < 2 ^ 62) && decide (-(2 ^ 62) ≤ i) && decide (j < 2 ^ 62) && decide (-(2 ^ 62) ≤ j) && decide ((j - i).toNat ≤ sizeLine)
theorem okR_is {i j : Int} (h : okR i j = true) : (-(2 ^ 62) ≤ i ∧ i < 2 ^ 62 ∧ -(2 ^ 62) ≤ j ∧ j < 2 ^ 62) ∧ (j - i).toNat ≤ sizeLine := by
  unfold okR at h
  simp only [Bool.and_eq_true, decide_eq_true_eq] at h
  exact ⟨⟨h.1.1.1.2, h.1.1.1.1, h.1.2, h.1.1.2⟩, h.2⟩
theorem rangeD_len {i : Int} {n : Nat} : (rangeD i n).length = n := by rw [rangeD, List.length_map, List.length_range]
def mRange1 (m : M (List D)) : M (List D) := bindM m fun ds => fun ρ => match d1 ds with
  | some j => if okR 0 j = true then .ok (rangeD 0 j.toNat) ρ else .bad
  | none => .bad
def mRange2 (m : M (List D)) : M (List D) := bindM m fun ds => fun ρ => match d2 ds with
  | some p => if okR p.1 p.2 = true then .ok (rangeD p.1 (p.2 - p.1).toNat) ρ else .bad
  | none => .bad
theorem si_range1 {tg a : Expr} {m : M (List D)} {p : Pos} (hg : Gl T.X "range") (hm : T.X.mg "range" = none) (ha : SX T G [a] [none] G' m) (hs : starEach [a] T.X.env = [(false, eval a T.X.env)] := by rfl) :
    SI T G tg (.Call (.Name "range" p) [a] [] pos) G' (mRange1 m) := PIimp (pi_range1 hg hm ha hs) fun σ H R ⟨F, ρ, fps, ex, r0, m0⟩ => by
  refine seqR r0 m0 fun ds xs F1 H1 ρ1 fps1 fp1 e1 r1 z1 m1 => ?_
  obtain ⟨rfl, hr⟩ := z1.frozen rfl
  cases q : d1 ds with
  | none => simp only [q] at m1; exact m1.elim
  | some j =>
    simp only [q] at m1
    have := d1_eq q
    subst this
    by_cases hc : okR 0 j = true
    · rw [if_pos hc] at m1
      have ex : xs = [.int j] := by
        unfold RepL RepL at hr
        obtain ⟨x, r, rfl, h1, rfl⟩ := hr
        unfold Rep at h1; rw [h1]
      obtain ⟨⟨c1, c2, c3, c4⟩, c5⟩ := okR_is hc
      exact ⟨j, ex, c3, c4, Rem.fin (fp := []) m1 (Ext.refl _ _ _) r1 ⟨rfl, (by rw [rangeD_len]; first | exact c5 | (rw [Int.sub_zero] at c5; exact c5)), F1, r1.sub, fun a u e z => (by rw [r1.out a (List.mem_append_right _ z)] at e; cases e), walks_range _ _⟩⟩
    · rw [if_neg hc] at m1; exact m1.elim
/-! enumerate -/
def enumL : Nat → List D → List D
  | _, [] => []
  | i, d :: ds => .tup [.int i, d] :: enumL (i + 1) ds
theorem enumL_get : ∀ (ds : List D) (k i : Nat), (enumL k ds)[i]? = ds[i]?.map fun d => .tup [.int ((k + i : Nat) : Int), d]
  | [], k, i => by simp [enumL]
  | d :: ds, k, 0 => by simp [enumL]
  | d :: ds, k, i + 1 => by
    rw [enumL, List.getElem?_cons_succ, List.getElem?_cons_succ, enumL_get ds (k + 1) i]
    rw [show k + 1 + i = k + (i + 1) by omega]
theorem enumL_len : ∀ (ds : List D) (k : Nat), (enumL k ds).length = ds.length
  | [], _ => rfl
  | d :: ds, k => by simp [enumL, enumL_len ds (k + 1)]
theorem pair_ok {C : Cl} {F H : Hp} {x y : V} {d e : D} {p : Addr} (s : Sub F H) (h : H p = none) (a : Rep C F d x) (b : Rep C F e y) : Rep C (upd F p (.tup [x, y])) (.tup [d, e]) (.ref p) := by
  have s' : Sub F (upd F p (.tup [x, y])) := Sub.upd (s.non h)
  unfold Rep
  exact ⟨p, [x, y], rfl, upd_same, RepL.cons (Rep.mono s' d x a) (RepL.cons (Rep.mono s' e y b) RepL.nil), by show (2 : Nat) ≤ _; decide⟩
def o1 : List Opn → Option Opn
  | [o] => some o
  | _ => none
theorem o1_eq {os : List Opn} {o : Opn} (h : o1 os = some o) : os = [o] := by
  unfold o1 at h; split at h <;> first | (cases h; rfl) | cases h
def lstOf : Option D → Option (List D)
  | some (.lst l) => some l
  | _ => none
theorem lstOf_eq {d : Option D} {l : List D} (h : lstOf d = some l) : d = some (.lst l) := by
  unfold lstOf at h; split at h <;> first | (cases h; rfl) | cases h
def mEnum (m : M (List Opn)) : M (List D) := bindM m fun os => fun ρ => match (o1 os).bind fun o => lstOf (resO ρ o) with
  | some l => .ok (enumL 0 l) ρ
  | none => .bad
end
/-! ### for -/
def forL (b : Bd) (body : M Fl) : List D → M Fl
  | [], ρ => .ok .nx ρ
  | d :: ds, ρ => match b d ρ with
    | none => .bad
    | some ρ1 => match body ρ1 with
      | .ok .nx ρ2 => forL b body ds ρ2
      | .ok .ct ρ2 => forL b body ds ρ2
      | .ok .bk ρ2 => .ok .nx ρ2
      | .ok (.rt d) ρ2 => .ok (.rt d) ρ2
      | .ex c ns vs ρ2 => .ex c ns vs ρ2
      | .bad => .bad
def sFor (m : M (List D)) (b : Bd) (body : M Fl) : M Fl := bindM m fun ds => forL b body ds
section
variable {T : Ct} {S : Gs} {G G1 G2 G' : List Md} {pos : Pos}
theorem ss_for {tg iter : Expr} {body : List Stmt} {m : M (List D)} {b : Bd} {is : List Nat} {s : M Fl} {g : TG} (po : PassesOwn (model T.X.prog T.X.w) T.X.A T.X.env T.X.xe) (ok : T.Ok) (hi : SI T G tg iter G1 m) (hg : SG T G1 tg is G2 b g) (hb : SB T { S with gb := G1, gc := G1 } G2 body G1 s) (hs : foldedSetIterable iter T.X.env = pure := by rfl) :
    SS T S G (.For tg iter body [] pos) G1 (sFor m b s) := by
  refine PSimp (ps_for po ok.calm hi hg.1 hb fun x => by rw [hs]) fun E σ H ⟨F, ρ, fps, r, mm⟩ => ?_
  refine seqS r mm fun ds J F1 H1 ρ1 fps1 fp1 e1 r1 z1 m1 => ?_
  obtain ⟨rfl, _, Sx, s1, s2, wk⟩ := z1
  refine ⟨fun i n σ' H' => n + i = ds.length ∧ ∃ F' ρ' fps', Rel T.C T.pin G1 F' H' σ' ρ' fps' [] ∧ Ext F1 H1 fps1.flatten F' H' fps'.flatten ∧ RemS T S G1 (forL b s (ds.drop i) ρ') F' H' fps'.flatten E, ⟨ds.length, rfl, F1, ρ1, fps1, r1, Ext.refl _ _ _, m1⟩, ?_⟩
  rintro i n σ' H' ⟨hn, F', ρ', fps', r', e', m'⟩
  have hS : Sub Sx H' := fun a o q => e'.e2 a o (s1 a o q) (s2 a o q)
  obtain ⟨g, st⟩ := wk F' H' i hS e'.e1 r'.sub
  by_cases hi : ds.length ≤ i
  · rw [List.drop_eq_nil_of_le hi] at m'
    exact .inl ⟨st hi, m' σ' F' H' fps' (Ext.refl _ _ _) r'⟩
  · have hi' : i < ds.length := Nat.lt_of_not_le hi
    rw [List.drop_eq_getElem_cons hi'] at m'
    obtain ⟨g1, g2⟩ := g ds[i] (List.getElem?_eq_getElem hi')
    refine .inr ⟨g1, fun σ'' H'' => ∃ F'' ρ'' fps'', Rel T.C T.pin G1 F'' H'' σ'' ρ'' fps'' [] ∧ Ext F1 H1 fps1.flatten F'' H'' fps''.flatten ∧ RemS T S G1 (forL b s (ds.drop (i + 1)) ρ'') F'' H'' fps''.flatten E, fun σ'' H'' q => ⟨n - 1, by omega, by omega, q⟩, fun x H2 hy => ?_⟩
    have key : ∃ F2, Ext F' H' fps'.flatten F2 H2 fps'.flatten ∧ Rel T.C T.pin G1 F2 H2 σ' ρ' fps' [] ∧ Rep T.C F2 ds[i] x := by
      rcases g2 x H2 hy with ⟨rfl, z⟩ | ⟨p, o, hp, rfl, z⟩
      · exact ⟨F', Ext.refl _ _ _, r', z⟩
      · exact ⟨_, Ext.newF r'.sub hp, r'.newF hp, z⟩
    obtain ⟨F2, e2, r2, z2⟩ := key
    unfold forL at m'
    cases qb : b ds[i] ρ' with
    | none => simp only [qb] at m'; exact m'.elim
    | some ρ2 =>
      simp only [qb] at m'
      refine hg.2 x σ' F2 H2 ρ' ρ2 fps' [] ds[i] _ r2 z2 qb fun σ3 fps3 sub3 r3 _ => ?_
      refine ⟨F2, ρ2, fps3, r3, ?_⟩
      have e3 : Ext F' H' fps'.flatten F2 H2 fps3.flatten := e2.less sub3
      cases qs : s ρ2 with
      | ok f ρ4 =>
        cases f with
        | nx =>
          simp only [qs] at m'
          exact fun σ4 F4 H4 fps4 k4 r4 => ⟨F4, ρ4, fps4, r4, e'.trans (e3.trans k4), m'.step (e3.trans k4)⟩
        | ct =>
          simp only [qs] at m'
          exact fun σ4 F4 H4 fps4 k4 r4 => ⟨F4, ρ4, fps4, r4, e'.trans (e3.trans k4), m'.step (e3.trans k4)⟩
        | bk =>
          simp only [qs] at m'
          exact fun σ4 F4 H4 fps4 k4 r4 => m' σ4 F4 H4 fps4 (e3.trans k4) r4
        | rt d =>
          simp only [qs] at m'
          exact fun v4 σ4 F4 H4 fps4 fp4 k4 r4 z4 => m' v4 σ4 F4 H4 fps4 fp4 (e3.trans k4) r4 z4
      | ex c ns vs ρ4 =>
        simp only [qs] at m'
        exact fun σ4 => (m' σ4).step e3
      | bad => simp only [qs] at m'; exact m'.elim
end
end DM
end
section
set_option autoImplicit false
set_option Elab.async false
set_option linter.all false
set_option maxRecDepth 100000
set_option maxHeartbeats 4000000
/-! DM15: list comprehensions. -/
namespace DM
open PySem PySem.Spec PyProof.Rows L2

/-- the slots of a block's own names forgotten; put back -/
def wipeD (ρ : DEnv) : List Nat → DEnv
  | [] => ρ
  | v :: vs => (wipeD ρ vs).set v none
def putD (ρ0 : DEnv) : List Nat → DEnv → DEnv
  | [], ρ => ρ
  | v :: vs, ρ => putD ρ0 vs (ρ.set v (ρ0[v]?).join)
section
variable {C : Cl} {pin : List (Nat × V)} {G : List Md} {F F0 F' H H0 H' : Hp} {σ : Sl} {ρ ρ0 : DEnv} {fps fps0 : List (List Addr)} {ex ex0 : List Addr}
theorem Rel.wipe1 (r : Rel C pin G F H σ ρ fps ex) {i : Nat} (hp : ∀ p ∈ pin, p.1 ≠ i) : Rel C pin G F H (σ.set i none) (ρ.set i none) fps ex :=
  ⟨r.sub, r.tups, by simp [r.ls], by simp [r.lf], by simp [r.lg], r.nd, r.out, r.live, fun j d e => by
    by_cases hj : j = i
    · subst hj
      by_cases hl : j < ρ.length
      · rw [List.getElem?_set_self hl] at e; cases e
      · rw [List.getElem?_eq_none (by simpa using hl)] at e; cases e
    · rw [List.getElem?_set_ne (Ne.symm hj)] at e
      obtain ⟨v, fp, e1, e2, h⟩ := r.slot j d e
      exact ⟨v, fp, by rw [List.getElem?_set_ne (Ne.symm hj)]; exact e1, e2, h⟩, fun p hpin => by
    rw [List.getElem?_set_ne (Ne.symm (hp p hpin))]; exact r.pn p hpin⟩
theorem Rel.wipe (r : Rel C pin G F H σ ρ fps ex) : ∀ (vs : List Nat), (∀ p ∈ pin, p.1 ∉ vs) → Rel C pin G F H (L2.wipe σ vs) (wipeD ρ vs) fps ex
  | [], _ => r
  | v :: vs, hp => (Rel.wipe r vs fun p h z => hp p h (List.mem_cons_of_mem _ z)).wipe1 fun p h e => hp p h (by rw [e]; exact List.mem_cons_self)
theorem Rel.put1 {i : Nat} (r : Rel C pin G F H (σ.set i none) ρ fps ex) (o : Option D) (hm : G.getD i .fz = .fz) (hp : ∀ p ∈ pin, p.1 ≠ i) (h : ∀ d, o = some d → ∃ v, σ[i]? = some (some v) ∧ Rep C F d v) :
    Rel C pin G F H σ (ρ.set i o) (fps.set i []) ex := by
  have sub : ∀ a ∈ ex ++ (fps.set i []).flatten, a ∈ ex ++ fps.flatten := fun a ha => by
    rcases List.mem_append.mp ha with z | z
    · exact List.mem_append_left _ z
    · exact List.mem_append_right _ ((flatten_set_sub z).elim (fun z => nomatch z) id)
  have n := List.nodup_append.mp r.nd
  refine ⟨r.sub, r.tups, by have := r.ls; simpa using this, by simp [r.lf], by simp [r.lg], List.nodup_append.mpr ⟨n.1, nodup_set n.2.1 List.nodup_nil fun j g _ hj x hx hg => (nomatch hx), fun a ha b hb e => n.2.2 a ha b ((flatten_set_sub hb).elim (fun z => nomatch z) id) e⟩, fun a ha => r.out a (sub a ha), fun a ha => r.live a (sub a ha), fun j d e => ?_, fun p hpin => ?_⟩
  · by_cases hj : j = i
    · subst hj
      have hl : j < ρ.length := by
        have := (List.getElem?_eq_some_iff.mp e).1
        simpa using this
      rw [List.getElem?_set_self hl] at e
      cases e
      obtain ⟨v, e1, z⟩ := h d rfl
      exact ⟨v, [], e1, by rw [List.getElem?_set_self (by rw [r.lf]; exact hl)], by rw [hm]; exact ⟨rfl, z⟩⟩
    · rw [List.getElem?_set_ne (Ne.symm hj)] at e
      obtain ⟨v, fp, e1, e2, h'⟩ := r.slot j d e
      rw [List.getElem?_set_ne (Ne.symm hj)] at e1
      exact ⟨v, fp, e1, by rw [List.getElem?_set_ne (Ne.symm hj)]; exact e2, h'.less fun a ha _ => sub a ha⟩
  · have := r.pn p hpin
    rw [List.getElem?_set_ne (Ne.symm (hp p hpin))] at this
    exact this
theorem wipe_out {σ : Sl} {i : Nat} : ∀ {vs : List Nat}, i ∉ vs → (L2.wipe σ vs)[i]? = σ[i]?
  | [], _ => rfl
  | v :: vs, h => by
    show ((L2.wipe σ vs).set v none)[i]? = _
    rw [List.getElem?_set_ne (fun e => h (by rw [e]; exact List.mem_cons_self))]
    exact wipe_out fun z => h (List.mem_cons_of_mem _ z)
theorem Rel.put (r0 : Rel C pin G F0 H0 σ ρ0 fps0 ex0) (s : Sub F0 F) : ∀ (vs : List Nat) (ρ : DEnv) (fps : List (List Addr)), vs.Nodup → (∀ i ∈ vs, G.getD i .fz = .fz) → (∀ p ∈ pin, p.1 ∉ vs) → Rel C pin G F H (L2.wipe σ vs) ρ fps ex →
    ∃ fps', (∀ a ∈ fps'.flatten, a ∈ fps.flatten) ∧ Rel C pin G F H σ (putD ρ0 vs ρ) fps' ex
  | [], ρ, fps, _, _, _, r => ⟨fps, fun _ h => h, r⟩
  | v :: vs, ρ, fps, hn, hm, hp, r => by
    have hn' := List.nodup_cons.mp hn
    have r1 := Rel.put1 (σ := L2.wipe σ vs) (i := v) r (ρ0[v]?).join (hm v List.mem_cons_self) (fun p h e => hp p h (by rw [e]; exact List.mem_cons_self)) fun d e => by
      have e' : ρ0[v]? = some (some d) := join_some e
      obtain ⟨w, e1, z⟩ := r0.fzv e' (hm v List.mem_cons_self)
      exact ⟨w, by rw [wipe_out hn'.1]; exact e1, Rep.mono s d w z⟩
    obtain ⟨fps', h1, h2⟩ := Rel.put r0 s vs _ _ hn'.2 (fun i hi => hm i (List.mem_cons_of_mem _ hi)) (fun p h z => hp p h (List.mem_cons_of_mem _ z)) r1
    exact ⟨fps', fun a ha => (flatten_set_sub (h1 a ha)).elim (fun z => nomatch z) id, h2⟩
/-- an object under way is changed -/
theorem Rel.exUpd {p : Addr} {o : HO} (r : Rel C pin G F H σ ρ fps ex) (hp : p ∈ ex) (nt : ∀ xs, o ≠ .tup xs) : Rel C pin G F (upd H p o) σ ρ fps ex := by
  have fp := r.out p (List.mem_append_left _ hp)
  have n := List.nodup_append.mp r.nd
  have nf : ∀ a ∈ fps.flatten, a ≠ p := fun a ha e => n.2.2 p hp a ha e.symm
  refine ⟨fun a u e => ?_, fun a xs e => ?_, r.ls, r.lf, r.lg, r.nd, r.out, fun a ha => ?_, fun i d e => ?_, r.pn⟩
  · rw [upd_ne (fun z => by subst z; rw [fp] at e; cases e)]; exact r.sub a u e
  · by_cases z : a = p
    · subst z; rw [upd_same] at e; cases e; exact absurd rfl (nt xs)
    · rw [upd_ne z] at e; exact r.tups a xs e
  · by_cases z : a = p
    · subst z; exact ⟨o, upd_same⟩
    · rw [upd_ne z]; exact r.live a ha
  · obtain ⟨v, g, e1, e2, h⟩ := r.slot i d e
    exact ⟨v, g, e1, e2, h.go (Sub.refl F) (fun a ha u e => by rw [upd_ne (nf a (mem_flatten_get e2 ha))]; exact e) (fun a u e na => by rw [upd_ne (fun z => na (by rw [z]; exact List.mem_append_left _ hp))]; exact e) fun a ha _ => ha⟩
end

abbrev Ct.blk (T : Ct) (s : Shared) (H : Hp) (scope : Scope) (c : Addr) (cl : List (Str × Addr)) (fp : List Addr) : Ct := { T with X := T.X.blk s H scope (compEnvC scope cl c T.X.env) fp, W := fun _ _ _ _ => False }
theorem Ct.Ok.blk {T : Ct} (ok : T.Ok) (s : Shared) (H : Hp) (scope : Scope) (c : Addr) (cl : List (Str × Addr)) (fp : List Addr) : (T.blk s H scope c cl fp).Ok := ⟨ok.hK, ok.calm, ok.nd, fun u s' ⟨a, B, sI, pins, σ, H, cls, d, e, I, nb, up, sky, na, os, ag, w⟩ => w.elim, ok.un, ok.gd⟩
def T0 (T : Ct) : Ct := { T with W := fun _ _ _ _ => False }
/-- a row of filters -/
def STs (T : Ct) (G : List Md) (es : List Expr) (G' : List Md) (f : M Bool) : Prop := PTs T.X es (tG T G G' rB f)
theorem PTsimp {X : Cx} {es : List Expr} {t t' : TT} (h : PTs X es t) (w : ∀ σ H Q, t' σ H Q → t σ H Q) : PTs X es t' := ⟨fun pins s σ H Q I q => h.run pins s σ H Q I (w σ H Q q)⟩
theorem sts_nil {T : Ct} {G : List Md} : STs T G [] G (retM true) := PTsimp pts_nil fun σ H Q ⟨F, ρ, fps, ex, r, m⟩ => Rem.fin (fp := []) m (Ext.refl _ _ _) r ⟨rfl, rfl⟩
theorem sts_one {T : Ct} {G G' : List Md} {c : Expr} {f : M Bool} (h : ST T G c G' f) : STs T G [c] G' f := pts_one h

def lcL (vs : List Nat) (b : Bd) (mt : M Bool) (me : M D) : List D → List D → DEnv → R (List D)
  | [], acc, ρ => .ok acc ρ
  | d :: ds, acc, ρ => match b d ρ with
    | none => .bad
    | some ρ1 => match mt ρ1 with
      | .ok true ρ2 => (match me ρ2 with
        | .ok y ρ3 => lcL vs b mt me ds (acc ++ [y]) (wipeD ρ3 vs)
        | _ => .bad)
      | .ok false ρ2 => lcL vs b mt me ds acc (wipeD ρ2 vs)
      | _ => .bad
def mLc (vs : List Nat) (m : M (List D)) (b : Bd) (mt : M Bool) (me : M D) : M D := bindM m fun ds ρ => match lcL vs b mt me ds [] (wipeD ρ vs) with
  | .ok acc ρ' => .ok (.lst acc) (putD ρ vs ρ')
  | _ => .bad
theorem wipe_wipe {σ σ2 : Sl} {vs : List Nat} (h : L2.wipe σ2 vs = L2.wipe σ vs) {C : Cl} {pin : List (Nat × V)} {G : List Md} {F H : Hp} {ρ : DEnv} {fps : List (List Addr)} {ex : List Addr} (r : Rel C pin G F H σ2 ρ fps ex) (hp : ∀ p ∈ pin, p.1 ∉ vs) : Rel C pin G F H (L2.wipe σ vs) (wipeD ρ vs) fps ex := by
  rw [← h]; exact r.wipe vs hp
section
variable {T : Ct} {G G1 G2 G' : List Md} {pos : Pos}
theorem lc_read {vs : List Nat} {m : M (List D)} {b : Bd} {is : List Nat} {g : TG} {mt : M Bool} {me : M D}
    (kg : ∀ (v : V) (σ : Sl) (F H : Hp) (ρ ρ' : DEnv) (fps : List (List Addr)) (ex : List Addr) (d : D) (Q : Sl → Hp → Prop), Rel T.C T.pin G1 F H σ ρ fps ex → Rep T.C F d v → b d ρ = some ρ' → (∀ σ' fps', (∀ a ∈ fps'.flatten, a ∈ fps.flatten) → Rel T.C T.pin G1 F H σ' ρ' fps' ex → (∀ vs : List Nat, (∀ i ∈ is, i ∈ vs) → wipe σ' vs = wipe σ vs) → Q σ' H) → g v σ H Q)
    (his : ∀ i ∈ is, i ∈ vs) (hn : vs.Nodup) (hm : ∀ i ∈ vs, G1.getD i .fz = .fz) (hp : ∀ p ∈ T.pin, p.1 ∉ vs) (σ : Sl) (H : Hp) (Q : VK) (w : tG T G G1 (rF T.C 0) (mLc vs m b mt me) σ H Q) :
    tLc (tG T G G1 (rI T.C) m) g (tG (T0 T) G1 G1 rB mt) (tG (T0 T) G1 G1 (rV T.C) me) vs σ H Q := by
  obtain ⟨F, ρ, fps, ex, r0, m0⟩ := w
  refine seqR r0 m0 fun ds J F1 H1 ρ1 fps1 fp1 e1 r1 z1 m1 => ?_
  obtain ⟨rfl, hlen, Sx, s1, s2, wk⟩ := z1
  intro Dn hD
  have r1' : Rel T.C T.pin G1 F1 H1 σ ρ1 fps1 ex := r1
  refine ⟨fun i n H' => n + i = ds.length ∧ ∃ F' ρ' fps' acc accD, Rel T.C T.pin G1 F' H' (L2.wipe σ vs) ρ' fps' (Dn :: ex) ∧ Ext F1 H1 fps1.flatten F' H' (Dn :: fps'.flatten) ∧ H' Dn = some (.lst acc) ∧ RepL T.C F' accD acc ∧ accD.length ≤ i ∧
    (match lcL vs b mt me (ds.drop i) accD ρ' with
      | .ok acc ρ'' => Rem T G1 (rF T.C 0) (.ok (.lst acc) (putD ρ1 vs ρ'')) F1 H1 fps1 ex σ Q
      | _ => False), ⟨ds.length, rfl, F1, wipeD ρ1 vs, fps1, [], [], (r1'.wipe vs hp).new hD (fun _ e => by cases e), Ext.new hD, upd_same, RepL.nil, Nat.le_refl _, ?_⟩, ?_⟩
  · rw [List.drop_zero]
    cases q : lcL vs b mt me ds [] (wipeD ρ1 vs) with
    | ok acc ρ' => simp only [q] at m1; exact m1
    | ex c ns xs ρ' => simp only [q] at m1; exact m1.elim
    | bad => simp only [q] at m1; exact m1.elim
  rintro i n H' ⟨hn', F', ρ', fps', acc, accD, r', e', hDn, racc, lacc, m'⟩
  have hDs : ∀ a o, Sx a = some o → a ≠ Dn := fun a o q z => by
    have := s1 a o q
    rw [z, hD] at this; cases this
  have hS : Sub Sx H' := fun a o q => e'.e2 a o (s1 a o q) (s2 a o q)
  obtain ⟨g', st⟩ := wk F' H' i hS e'.e1 r'.sub
  by_cases hi' : ds.length ≤ i
  · rw [List.drop_eq_nil_of_le hi'] at m'
    simp only [lcL] at m'
    refine .inl ⟨st hi', ?_⟩
    obtain ⟨fps2, hs2, r2⟩ := Rel.put (ex := Dn :: ex) r1' e'.e1 vs ρ' fps' hn hm hp r'
    refine m' (.ref Dn) F' H' fps2 [Dn] ⟨e'.e1, e'.e2, e'.e3, fun a ha => ?_⟩ r2 ?_
    · refine e'.e4 a ?_
      rcases List.mem_append.mp ha with z | z
      · exact List.mem_cons.mpr (.inl (List.mem_singleton.mp z))
      · exact List.mem_cons_of_mem _ (hs2 a z)
    · show Own T.C F' H' 1 (.lst accD) (.ref Dn) [Dn]
      unfold Own
      exact ⟨Dn, acc, [], rfl, rfl, hDn, OwnL.of_rep racc, Nat.le_trans (by omega) hlen⟩
  · have hi2 : i < ds.length := Nat.lt_of_not_le hi'
    rw [List.drop_eq_getElem_cons hi2] at m'
    obtain ⟨g1, g2⟩ := g' ds[i] (List.getElem?_eq_getElem hi2)
    refine .inr ⟨g1, fun H'' => ∃ F' ρ' fps' acc accD, Rel T.C T.pin G1 F' H'' (L2.wipe σ vs) ρ' fps' (Dn :: ex) ∧ Ext F1 H1 fps1.flatten F' H'' (Dn :: fps'.flatten) ∧ H'' Dn = some (.lst acc) ∧ RepL T.C F' accD acc ∧ accD.length ≤ i + 1 ∧
      (match lcL vs b mt me (ds.drop (i + 1)) accD ρ' with
        | .ok acc ρ'' => Rem T G1 (rF T.C 0) (.ok (.lst acc) (putD ρ1 vs ρ'')) F1 H1 fps1 ex σ Q
        | _ => False), fun H'' q => ⟨n - 1, by omega, by omega, q⟩, fun x H2 hy => ?_⟩
    have key : ∃ F2, Ext F' H' fps'.flatten F2 H2 fps'.flatten ∧ Rel T.C T.pin G1 F2 H2 (L2.wipe σ vs) ρ' fps' (Dn :: ex) ∧ Rep T.C F2 ds[i] x := by
      rcases g2 x H2 hy with ⟨rfl, z⟩ | ⟨p, o, hp', rfl, z⟩
      · exact ⟨F', Ext.refl _ _ _, r', z⟩
      · exact ⟨_, Ext.newF r'.sub hp', r'.newF hp', z⟩
    obtain ⟨F2, e2, r2, z2⟩ := key
    unfold lcL at m'
    cases qb : b ds[i] ρ' with
    | none => simp only [qb] at m'
    | some ρ2 =>
      simp only [qb] at m'
      refine kg x (L2.wipe σ vs) F2 H2 ρ' ρ2 fps' (Dn :: ex) ds[i] _ r2 z2 qb fun σ3 fps3 sub3 r3 w3 => ?_
      have w4 : L2.wipe σ3 vs = L2.wipe σ vs := by
        rw [w3 vs his]
        have aux : ∀ (us : List Nat) (τ : Sl), L2.wipe (L2.wipe τ us) us = L2.wipe τ us := by
          intro us τ
          apply List.ext_getElem?
          intro j
          by_cases hj : j ∈ us
          · have e1 : ∀ τ' : Sl, (L2.wipe τ' us)[j]? = (τ'[j]?).map fun _ => none := by
              intro τ'
              clear w3 r3
              induction us with
              | nil => cases hj
              | cons u us ih =>
                show ((L2.wipe τ' us).set u none)[j]? = _
                by_cases hu : u = j
                · subst hu
                  by_cases hl : u < τ'.length
                  · rw [List.getElem?_set_self (by rw [wipe_length]; exact hl), List.getElem?_eq_getElem hl]; rfl
                  · rw [List.getElem?_eq_none (by rw [List.length_set, wipe_length]; omega), List.getElem?_eq_none (by omega)]; rfl
                · rw [List.getElem?_set_ne hu]
                  rcases List.mem_cons.mp hj with z | z
                  · exact absurd z.symm hu
                  · exact ih z
            rw [e1, e1, Option.map_map]; rfl
          · rw [wipe_out hj]
        exact aux vs σ
      have e3 : Ext F' H' fps'.flatten F2 H2 fps3.flatten := e2.less sub3
      refine ⟨w4, ?_⟩
      refine ⟨F2, ρ2, fps3, Dn :: ex, r3, ?_⟩
      cases qt : mt ρ2 with
      | ex c ns xs ρ3 => simp only [qt] at m'
      | bad => simp only [qt] at m'
      | ok t ρ3 =>
        intro tb F4 H4 fps4 fp4 k4 r4 z4
        obtain ⟨rfl, rfl⟩ := z4
        rw [List.nil_append] at k4 r4
        have x4 := e3.trans k4
        have nD : Dn ∉ fps4.flatten := fun z => (List.nodup_append.mp r4.nd).2.2 Dn List.mem_cons_self Dn z rfl
        have nD' : Dn ∉ fps'.flatten := fun z => (List.nodup_append.mp r'.nd).2.2 Dn List.mem_cons_self Dn z rfl
        have hD4 : H4 Dn = some (.lst acc) := x4.e2 Dn _ hDn nD'
        have lift : ∀ {F5 H5 : Hp} {fps5 : List (List Addr)}, Ext F' H' fps'.flatten F5 H5 fps5.flatten → Ext F1 H1 fps1.flatten F5 H5 (Dn :: fps5.flatten) := fun {F5 H5 fps5} x => by
          have y := e'.trans (x.more fun a ha => List.mem_cons_of_mem _ ha)
          refine ⟨y.e1, y.e2, y.e3, fun a ha => ?_⟩
          rcases List.mem_cons.mp ha with z | z
          · rw [z]; exact .inr hD
          · exact y.e4 a z
        cases t with
        | false =>
          simp only [qt] at m'
          rw [if_neg (by decide)]
          exact ⟨F4, wipeD ρ3 vs, fps4, acc, accD, wipe_wipe w4 r4 hp, lift x4, hD4, RepL.mono x4.e1 accD acc racc, Nat.le_succ_of_le lacc, m'⟩
        | true =>
          simp only [qt] at m'
          rw [if_pos rfl]
          refine ⟨F4, ρ3, fps4, Dn :: ex, r4, ?_⟩
          cases qe : me ρ3 with
          | ex c ns xs ρ4 => simp only [qe] at m'
          | bad => simp only [qe] at m'
          | ok y ρ5 =>
            simp only [qe] at m'
            intro yv F5 H5 fps5 fp5 k5 r5 z5
            obtain ⟨rfl, z5⟩ := z5
            rw [List.nil_append] at k5 r5
            have x5 := x4.trans k5
            have hD5 : H5 Dn = some (.lst acc) := x5.e2 Dn _ hDn nD'
            have racc5 : RepL T.C F5 (accD ++ [y]) (acc ++ [yv]) := RepL.append (RepL.mono x5.e1 accD acc racc) (RepL.cons z5 RepL.nil)
            refine ⟨acc, hD5, ?_, F5, wipeD ρ5 vs, fps5, acc ++ [yv], accD ++ [y], (wipe_wipe w4 r5 hp).exUpd List.mem_cons_self (fun _ e => by cases e), ?_, upd_same, racc5, by simp; omega, m'⟩
            · rw [← racc.length]; omega
            · have y := lift x5
              refine ⟨y.e1, fun a o ea na => ?_, y.e3, y.e4⟩
              rw [upd_ne (fun z => by rw [z, hD] at ea; cases ea)]
              exact y.e2 a o ea na
theorem sf_lc {elt tg iter : Expr} {ifs : List Expr} {scope : Scope} {own : List (Str × Nat)} {m : M (List D)} {b : Bd} {is : List Nat} {g : TG} {mt : M Bool} {me : M D} (ok : T.Ok) (hi : SI T G tg iter G1 m) (bo : BlkOk T.X.N T.X.env.scope scope own)
    (hg : ∀ (s : Shared) (H : Hp) (c : Addr) (cl : List (Str × Addr)) (fp : List Addr), SG (T.blk s H scope c cl fp) G1 tg is G1 b g)
    (ht : ∀ (s : Shared) (H : Hp) (c : Addr) (cl : List (Str × Addr)) (fp : List Addr), STs (T.blk s H scope c cl fp) G1 ifs G1 mt)
    (he : ∀ (s : Shared) (H : Hp) (c : Addr) (cl : List (Str × Addr)) (fp : List Addr), SV (T.blk s H scope c cl fp) G1 elt G1 me)
    (his : ∀ i ∈ is, i ∈ own.map (·.2)) (hn : (own.map (·.2)).Nodup) (hm : ∀ i ∈ own.map (·.2), G1.getD i .fz = .fz) (hp : ∀ p ∈ T.pin, p.1 ∉ own.map (·.2)) (hs : foldedSetIterable iter T.X.env = pure := by rfl) :
    SF T G (.ListComp elt [⟨tg, iter, ifs, 0⟩] scope pos) 0 G1 (mLc (own.map (·.2)) m b mt me) := by
  generalize hvs : own.map (·.2) = vs at *
  have h := pe_lc (pos := pos) ok.calm ok.nd hi bo (fun s H c cl fp => (hg s H c cl fp).1) (fun s H c cl fp => (show PTs _ ifs (tG (T0 T) G1 G1 rB mt) from ht s H c cl fp)) (fun s H c cl fp => (show PE _ elt (tG (T0 T) G1 G1 (rV T.C) me) from he s H c cl fp)) fun x => by rw [hs]
  rw [hvs] at h
  exact ⟨fun pins0 s0 σ0 H0 Q0 I0 q0 => (PEimp h (lc_read (hg s0 H0 0 [] []).2 his hn hm hp) : PE T.X _ (tG T G G1 (rF T.C 0) (mLc vs m b mt me))).run pins0 s0 σ0 H0 Q0 I0 q0⟩
end
end DM
end
section
set_option autoImplicit false
set_option Elab.async false
set_option linter.all false
set_option maxRecDepth 100000
set_option maxHeartbeats 4000000
/-! DM16: more assignments; what never comes. -/
namespace DM
open PySem PySem.Spec PyProof.Rows L2

def kM : Option Nat → Md
  | none => .fz
  | some k => .ow k
def setL {α : Type} : List Nat → List α → List α → List α
  | i :: is, x :: xs, l => setL is xs (l.set i x)
  | _, _, l => l
theorem slot_of {C : Cl} {F H : Hp} {U : List Addr} {k : Option Nat} {d : D} {v : V} {f : List Addr} (h : RetR C k F H d v f) : SlotR C F H U (kM k) d v f := by
  cases k with
  | none => exact h
  | some n => exact h
section
variable {C : Cl} {pin : List (Nat × V)} {F H : Hp} {ex : List Addr}
theorem Rel.storeX : ∀ {ks : List (Option Nat)} {ds : List D} {vs : List V} {fp : List Addr} {is : List Nat} {G : List Md} {σ : Sl} {ρ : DEnv} {fps : List (List Addr)}, Rel C pin G F H σ ρ fps (fp ++ ex) → XV C F H ks ds vs fp → is.length = ks.length → (∀ i ∈ is, i < ρ.length) → (∀ i ∈ is, ∀ p ∈ pin, p.1 ≠ i) →
    ∃ fps', (∀ a ∈ fps'.flatten, a ∈ fp ++ fps.flatten) ∧ Rel C pin (setL is (ks.map kM) G) F H (setL is (vs.map some) σ) (setL is (ds.map some) ρ) fps' ex
  | [], [], [], _, [], _, _, _, fps, r, h, _, _, _ => ⟨fps, fun a ha => List.mem_append_right _ ha, r.drop⟩
  | [], [], [], _, _ :: _, _, _, _, _, _, _, l, _, _ => by cases l
  | k :: ks, d :: ds, v :: vs, _, [], _, _, _, _, _, _, l, _, _ => by cases l
  | k :: ks, d :: ds, v :: vs, fp, i :: is, G, σ, ρ, fps, r, h, l, hi, hp => by
    obtain ⟨f, g, e, z, h⟩ := h
    subst e
    have r1 := Rel.store (ex := g ++ ex) (f := f) (i := i) (d := d) (v := v) (md := kM k) (by rw [← List.append_assoc]; exact r) (hi i List.mem_cons_self) (hp i List.mem_cons_self) (slot_of z)
    obtain ⟨fps', h1, h2⟩ := Rel.storeX (is := is) r1 h (by simpa using l) (fun j hj => by rw [List.length_set]; exact hi j (List.mem_cons_of_mem _ hj)) fun j hj => hp j (List.mem_cons_of_mem _ hj)
    refine ⟨fps', fun a ha => ?_, h2⟩
    rcases List.mem_append.mp (h1 a ha) with q | q
    · exact List.mem_append_left _ (List.mem_append_right _ q)
    · rcases flatten_set_sub q with q | q
      · exact List.mem_append_left _ (List.mem_append_left _ q)
      · exact List.mem_append_right _ q
  | [], _ :: _, _, _, _, _, _, _, _, _, h, _, _, _ => h.elim
  | [], [], _ :: _, _, _, _, _, _, _, _, h, _, _, _ => h.elim
  | _ :: _, [], _, _, _, _, _, _, _, _, h, _, _, _ => h.elim
  | _ :: _, _ :: _, [], _, _, _, _, _, _, _, h, _, _, _ => h.elim
end
def gNames : List Nat → TGs
  | [] => gNil
  | i :: is => gCons (gName i) (gNames is)
theorem gNames_go : ∀ (is : List Nat) (vs : List V) (σ : Sl) (H : Hp) (Q : Sl → Hp → Prop), is.length = vs.length → Q (setL is (vs.map some) σ) H → gNames is vs σ H Q
  | [], [], σ, H, Q, _, q => ⟨rfl, q⟩
  | i :: is, v :: vs, σ, H, Q, l, q => ⟨v, vs, rfl, gNames_go is vs _ H Q (by simpa using l) q⟩
  | [], _ :: _, _, _, _, l, _ => by cases l
  | _ :: _, [], _, _, _, l, _ => by cases l
def sSetL (is : List Nat) (m : M (List D)) : M Fl := bindM m fun ds => fun ρ => .ok .nx (setL is (ds.map some) ρ)
/-- a tuple is told apart -/
def tupOf (n : Nat) : D → Option (List D)
  | .tup ds => if ds.length = n then some ds else none
  | _ => none
def sUnp (is : List Nat) (m : M D) : M Fl := bindM m fun d => fun ρ => match tupOf is.length d with
  | some ds => .ok .nx (setL is (ds.map some) ρ)
  | none => .bad
def sAsgG (m : M D) (b : Bd) : M Fl := bindM m fun d => fun ρ => match b d ρ with
  | some ρ' => .ok .nx ρ'
  | none => .bad
def sBad : M Fl := fun _ => .bad
section
variable {T : Ct} {S : Gs} {G G1 G2 G' : List Md} {pos : Pos}
/-- never reached -/
theorem ss_raise {e c : Option Expr} : SS T S G (.Raise e c pos) G' sBad := ⟨fun pins s σ H E I ⟨F, ρ, fps, r, m⟩ => m.elim⟩
theorem par_core {is : List Nat} {ks : List (Option Nat)} {E : Ends} {σ : Sl} {F H : Hp} {ρ : DEnv} {fps : List (List Addr)} {ds : List D} {vs : List V} {fp : List Addr} (r : Rel T.C T.pin G F H σ ρ fps fp) (z : XV T.C F H ks ds vs fp)
    (l : is.length = ks.length) (li : ∀ i ∈ is, i < G.length) (hp : ∀ i ∈ is, ∀ p ∈ T.pin, p.1 ≠ i) (q : RemS T S (setL is (ks.map kM) G) (.ok .nx (setL is (ds.map some) ρ)) F H (fp ++ fps.flatten) E) : E.nx (setL is (vs.map some) σ) H := by
  obtain ⟨fps', h1, h2⟩ := Rel.storeX (ex := []) (by rw [List.append_nil]; exact r) z l (fun i hi => by rw [← r.lg]; exact li i hi) hp
  exact q _ F H fps' ⟨Sub.refl _, fun _ _ e _ => e, fun _ _ e => .inl e, fun a ha => .inl (h1 a ha)⟩ h2
theorem ss_par2 {i j : Nat} {x y : Str} {a b : Expr} {m : M (List D)} {ks : List (Option Nat)} {px py pt : Pos} {kt k2 pt2} (ok : T.Ok) (hi : T.X.N[i]? = some x) (hj : T.X.N[j]? = some y) (hij : i ≠ j)
    (hx : T.X.env.scope.names.lookup x = some .local) (hy : T.X.env.scope.names.lookup y = some .local) (ha : SX T G [a, b] ks G1 m) (hp : ∀ k ∈ [i, j], ∀ p ∈ T.pin, p.1 ≠ k) (li : ∀ k ∈ [i, j], k < G1.length) (hk : ks.length = 2)
    (hw : swappedStores [.Tuple [.Name x px, .Name y py] kt pt] (.Tuple [a, b] k2 pt2) T.X.env = pure (some [x, y]) := by rfl)
    (hs : swapsWithSole [.Tuple [.Name x px, .Name y py] kt pt] (.Tuple [a, b] k2 pt2) pos.line T.X.env = pure false := by rfl) :
    SS T S G (.Assign [.Tuple [.Name x px, .Name y py] kt pt] (.Tuple [a, b] k2 pt2) pos) (setL [i, j] (ks.map kM) G1) (sSetL [i, j] m) := PSimp (ps_par ok.calm ok.nd hi hj hij hx hy ha hw hs) fun E σ H ⟨F, ρ, fps, r, mm⟩ => by
  refine seqS r mm fun ds vs F1 H1 ρ1 fps1 fp1 e1 r1 z1 m1 => ?_
  have l := z1.lens
  obtain ⟨v, w, rfl⟩ : ∃ v w, vs = [v, w] := by
    match vs, l.1 with
    | [v, w], _ => exact ⟨v, w, rfl⟩
    | [], e => rw [hk] at e; cases e
    | [_], e => rw [hk] at e; cases e
    | _ :: _ :: _ :: _, e => rw [hk] at e; simp at e
  exact ⟨v, w, rfl, par_core (S := S) (is := [i, j]) r1 z1 hk.symm li hp m1⟩
theorem ss_par3 {i j l : Nat} {x y z : Str} {a b c : Expr} {m : M (List D)} {ks : List (Option Nat)} {px py pz pt : Pos} {kt k2 pt2} (ok : T.Ok) (hi : T.X.N[i]? = some x) (hj : T.X.N[j]? = some y) (hl : T.X.N[l]? = some z) (hij : i ≠ j) (hil : i ≠ l) (hjl : j ≠ l)
    (hx : T.X.env.scope.names.lookup x = some .local) (hy : T.X.env.scope.names.lookup y = some .local) (hz : T.X.env.scope.names.lookup z = some .local) (ha : SX T G [a, b, c] ks G1 m) (hp : ∀ k ∈ [i, j, l], ∀ p ∈ T.pin, p.1 ≠ k) (li : ∀ k ∈ [i, j, l], k < G1.length) (hk : ks.length = 3)
    (hw : swappedStores [.Tuple [.Name x px, .Name y py, .Name z pz] kt pt] (.Tuple [a, b, c] k2 pt2) T.X.env = pure (some [x, y, z]) := by rfl)
    (hs : swapsWithSole [.Tuple [.Name x px, .Name y py, .Name z pz] kt pt] (.Tuple [a, b, c] k2 pt2) pos.line T.X.env = pure false := by rfl) :
    SS T S G (.Assign [.Tuple [.Name x px, .Name y py, .Name z pz] kt pt] (.Tuple [a, b, c] k2 pt2) pos) (setL [i, j, l] (ks.map kM) G1) (sSetL [i, j, l] m) := PSimp (ps_par3 ok.calm ok.nd hi hj hl hij hil hjl hx hy hz ha hw hs) fun E σ H ⟨F, ρ, fps, r, mm⟩ => by
  refine seqS r mm fun ds vs F1 H1 ρ1 fps1 fp1 e1 r1 z1 m1 => ?_
  have l' := z1.lens
  obtain ⟨u, v, w, rfl⟩ : ∃ u v w, vs = [u, v, w] := by
    match vs, l'.1 with
    | [u, v, w], _ => exact ⟨u, v, w, rfl⟩
    | [], e => rw [hk] at e; cases e
    | [_], e => rw [hk] at e; cases e
    | [_, _], e => rw [hk] at e; cases e
    | _ :: _ :: _ :: _ :: _, e => rw [hk] at e; simp at e
  exact ⟨u, v, w, rfl, par_core (S := S) (is := [i, j, l]) r1 z1 hk.symm li hp m1⟩
/-- names, by a true tuple -/
inductive PNames (X : Cx) : List Expr → List Nat → Prop
  | nil : PNames X [] []
  | cons {x : Str} {p : Pos} {i : Nat} {es : List Expr} {is : List Nat} (hi : X.N[i]? = some x) (hx : Loc X.env.scope x) (hr : PNames X es is) (hf : X.fn x = true ∨ X.env.scope.names.lookup x = some .local := by first | exact .inl rfl | exact .inr rfl | assumption)
      (hs : (assignEach (.Name x p :: es) X.env).map (·.2) = assign (.Name x p) X.env :: (assignEach es X.env).map (·.2) := by rfl) : PNames X (.Name x p :: es) (i :: is)
theorem PNames.pg {X : Cx} (hN : X.N.Nodup) : ∀ {es : List Expr} {is : List Nat}, PNames X es is → PGs X es (gNames is)
  | _, _, .nil => pgs_nil
  | _, _, .cons hi hx hr hf hs => pgs_cons (pg_name hN hi hx hf) (PNames.pg hN hr) hs
theorem ss_parN {tgs es : List Expr} {is : List Nat} {m : M (List D)} {ks : List (Option Nat)} {pt pt2 : Pos} {kt k2} (ok : T.Ok) (hn : PNames T.X tgs is) (ha : SX T G es ks G1 m) (hp : ∀ k ∈ is, ∀ p ∈ T.pin, p.1 ≠ k) (li : ∀ k ∈ is, k < G1.length) (hk : is.length = ks.length) (hk2 : is.length ≤ 1000)
    (ht : (assignEach tgs T.X.env).length = is.length := by rfl) (hst : (assignEach tgs T.X.env).findIdx? (·.1) = none := by rfl)
    (hs : swapsWithSole [.Tuple tgs kt pt] (.Tuple es k2 pt2) pos.line T.X.env = pure false := by rfl) (hw : swappedStores [.Tuple tgs kt pt] (.Tuple es k2 pt2) T.X.env = pure none := by rfl) :
    SS T S G (.Assign [.Tuple tgs kt pt] (.Tuple es k2 pt2) pos) (setL is (ks.map kM) G1) (sSetL is m) := PSimp (ps_asg (pe_tup ha) (pg_tup ok.calm (hn.pg ok.nd) ht hst) hs hw) fun E σ H ⟨F, ρ, fps, r, mm⟩ => by
  refine seqS r mm fun ds vs F1 H1 ρ1 fps1 fp1 e1 r1 z1 m1 => ?_
  have l' := z1.lens
  refine ⟨by rw [← l'.1, ← hk]; exact Nat.le_trans hk2 (by decide), fun p np => ?_⟩
  have r2 := r1.newF (o := .tup vs) np
  have z2 : XV T.C (upd F1 p (.tup vs)) (upd H1 p (.tup vs)) ks ds vs fp1 := by
    have go : ∀ {ks : List (Option Nat)} {ds : List D} {vs' : List V} {fp : List Addr}, XV T.C F1 H1 ks ds vs' fp → XV T.C (upd F1 p (.tup vs)) (upd H1 p (.tup vs)) ks ds vs' fp := by
      intro ks
      induction ks with
      | nil =>
        intro ds vs' fp h
        cases ds <;> cases vs' <;> first | exact h | exact h.elim
      | cons k ks ih =>
        intro ds vs' fp h
        cases ds with
        | nil => exact h.elim
        | cons d ds =>
          cases vs' with
          | nil => exact h.elim
          | cons v vs' =>
            obtain ⟨f, g, e, z, h⟩ := h
            exact ⟨f, g, e, z.mono (Sub.upd (r1.sub.non np)) fun a ha o e => Sub.upd np a o e, ih h⟩
    exact go z1
  refine ⟨p, vs, rfl, SqT.of upd_same, by rw [← l'.1]; exact hk.symm, ?_⟩
  refine gNames_go is vs σ _ _ (by rw [← l'.1]; exact hk) ?_
  refine par_core (S := S) r2 z2 hk li hp ?_
  exact RemS.step m1 (Ext.newF r1.sub np)
end
end DM
end
section
set_option autoImplicit false
set_option Elab.async false
set_option linter.all false
set_option maxRecDepth 100000
set_option maxHeartbeats 4000000
/-! DM17: lists changed in place. -/
namespace DM
open PySem PySem.Spec PyProof.Rows L2

/-- l.remove(x), data of any depth -/
def rRemD (K : PySem.W.Frag) : V → List V → Hp → VK → Prop := fun x xs H Q => ∃ (a : Addr) (ys : List V) (y : V) (d : PyData) (ds : List PyData) (j : Nat) (z : PyData), x = V.ref a ∧ xs = [y] ∧ H a = some (.lst ys) ∧ DpAll K H ys ds ∧ Dp K H y d ∧
  SeqAt.shaped (.list ds) = true ∧ SeqAt.shaped d = true ∧ ds[j]? = some z ∧ PyData.eqv z d = true ∧ (∀ (m : Nat) (z' : PyData), m < j → ds[m]? = some z' → PyData.eqv z' d = false) ∧ Q .non (upd H a (.lst (ys.eraseIdx j)))
/-! ### methods that change a list -/
def MutPrim (C : Cl) (r : V → List V → Hp → VK → Prop) (op : List D → List D → Option (D × List D)) : Prop := ∀ (F H : Hp) (a : Addr) (l args l' : List D) (xs vs : List V) (d : D) (Q : VK), Sub F H → H a = some (.lst xs) → RepL C F l xs → l.length ≤ sizeLine → F a = none → RepL C F args vs →
  op l args = some (d, l') → (∀ v xs', Rep C F d v → RepL C F l' xs' → l'.length ≤ sizeLine → Q v (upd H a (.lst xs'))) → r (.ref a) vs H Q
def appD (l args : List D) : Option (D × List D) := match args with
  | [d] => if l.length < sizeLine then some (.non, l ++ [d]) else none
  | _ => none
def extD (l args : List D) : Option (D × List D) := match args with
  | [.lst m] => if l.length + m.length ≤ sizeLine then some (.non, l ++ m) else none
  | _ => none
def popD (l args : List D) : Option (D × List D) := match args with
  | [] => (match l[l.length - 1]? with
    | some d => some (d, l.dropLast)
    | none => none)
  | _ => none
def popAtD (l args : List D) : Option (D × List D) := match args with
  | [.int i] => (match seqIndex? i l.length with
    | some k => (match l[k]? with
      | some d => some (d, l.eraseIdx k)
      | none => none)
    | none => none)
  | _ => none
def clearD (l args : List D) : Option (D × List D) := match args with
  | [] => some (.non, [])
  | _ => none
def placeD (l : List D) (d : D) : Option Nat := match toPy d, toPyL l with
  | some p, some ps => if p.depth ≤ 64 ∧ PyData.depthAll ps ≤ 60 then ps.findIdx? fun z => PyData.eqv z p else none
  | _, _ => none
def remD (l args : List D) : Option (D × List D) := match args with
  | [d] => (placeD l d).map fun j => (.non, l.eraseIdx j)
  | _ => none
theorem RepL.eraseIdx {C : Cl} {F : Hp} : ∀ {ds : List D} {xs : List V} (j : Nat), RepL C F ds xs → RepL C F (ds.eraseIdx j) (xs.eraseIdx j)
  | [], xs, j, h => by unfold RepL at h; subst h; exact RepL.nil
  | d :: ds, xs, 0, h => by
    unfold RepL at h
    obtain ⟨x, r, rfl, h1, h2⟩ := h
    exact h2
  | d :: ds, xs, j + 1, h => by
    unfold RepL at h
    obtain ⟨x, r, rfl, h1, h2⟩ := h
    exact RepL.cons h1 (RepL.eraseIdx j h2)
theorem RepL.dropLast {C : Cl} {F : Hp} {ds : List D} {xs : List V} (h : RepL C F ds xs) : RepL C F ds.dropLast xs.dropLast := by
  rw [List.dropLast_eq_take, List.dropLast_eq_take, ← h.length]
  exact h.take _
theorem RepL.one {C : Cl} {F : Hp} {d : D} {xs : List V} (h : RepL C F [d] xs) : ∃ x, xs = [x] ∧ Rep C F d x := by
  unfold RepL RepL at h
  obtain ⟨x, r, rfl, h1, rfl⟩ := h
  exact ⟨x, rfl, h1⟩
section
variable {C : Cl}
theorem mut_append : MutPrim C rAppend appD := by
  intro F H a l args l' xs vs d Q s hH hr hl nf ha e q
  unfold appD at e
  split at e
  · split at e
    · cases e
      rename_i d' hlt
      obtain ⟨x, rfl, hx⟩ := RepL.one ha
      exact ⟨a, xs, x, rfl, rfl, hH, by rw [← hr.length]; exact hlt, q .non _ rep_non (RepL.append hr (RepL.cons hx RepL.nil)) (by simp; omega)⟩
    · cases e
  · cases e
theorem mut_extend : MutPrim C rExtend extD := by
  intro F H a l args l' xs vs d Q s hH hr hl nf ha e q
  unfold extD at e
  split at e
  · split at e
    · cases e
      rename_i m hlt
      obtain ⟨x, rfl, hx⟩ := RepL.one ha
      unfold Rep at hx
      obtain ⟨b, zs, rfl, h1, h2, _⟩ := hx
      exact ⟨a, b, xs, zs, rfl, rfl, hH, s _ _ h1, by rw [← hr.length, ← h2.length]; exact hlt, q .non _ rep_non (RepL.append hr h2) (by simpa using hlt)⟩
    · cases e
  · cases e
theorem seqIndex_63 {i : Int} {n k : Nat} (h : seqIndex? i n = some k) (hn : n ≤ sizeLine) : -(2 ^ 63) ≤ i ∧ i < 2 ^ 63 := by
  unfold seqIndex? at h
  have := sizeLine_eq
  simp only [Bool.and_eq_true, decide_eq_true_eq, Option.ite_none_right_eq_some] at h
  obtain ⟨hc, _⟩ := h
  split at hc <;> omega
theorem mut_popAt : MutPrim C rPopAt popAtD := by
  intro F H a l args l' xs vs d Q s hH hr hl nf ha e q
  unfold popAtD at e
  split at e
  · rename_i i
    cases hk : seqIndex? i l.length with
    | none => simp only [hk] at e; cases e
    | some k =>
      simp only [hk] at e
      cases hd : l[k]? with
      | none => simp only [hd] at e; cases e
      | some d' =>
        simp only [hd] at e
        cases e
        obtain ⟨x, rfl, hx⟩ := RepL.one ha
        unfold Rep at hx
        subst hx
        obtain ⟨y, hy, z⟩ := hr.get hd
        obtain ⟨b1, b2⟩ := seqIndex_63 hk hl
        refine ⟨a, xs, i, k, y, rfl, rfl, hH, b1, b2, by rw [← hr.length]; exact hk, hy, q y _ z (RepL.eraseIdx k hr) ?_⟩
        have := List.length_eraseIdx_le l k
        omega
  · cases e
theorem place_of {l : List D} {d : D} {j : Nat} (h : placeD l d = some j) : ∃ p ps, toPy d = some p ∧ toPyL l = some ps ∧ p.depth ≤ 64 ∧ PyData.depthAll ps ≤ 60 ∧ ∃ z, ps[j]? = some z ∧ PyData.eqv z p = true ∧ ∀ (m : Nat) (z' : PyData), m < j → ps[m]? = some z' → PyData.eqv z' p = false := by
  unfold placeD at h
  split at h
  · split at h
    · rename_i p ps e1 e2 hc
      obtain ⟨hj, h1, h2⟩ := List.findIdx?_eq_some_iff_getElem.mp h
      refine ⟨p, ps, e1, e2, hc.1, hc.2, ps[j], List.getElem?_eq_getElem hj, h1, fun m z' hm hz => ?_⟩
      obtain ⟨hml, rfl⟩ := List.getElem?_eq_some_iff.mp hz
      have := h2 m hm
      simpa using this
    · cases h
  · cases h
end
def callMut (i : Nat) (op : List D → List D → Option (D × List D)) (m : M (List D)) : M D := fun ρ => match lstOf (ρ[i]?).join with
  | none => .bad
  | some _ => bindM m (fun args ρ => match lstOf (ρ[i]?).join with
    | some l => (match op l args with
      | some (d, l') => .ok d (ρ.set i (some (.lst l')))
      | none => .bad)
    | none => .bad) ρ
section
variable {T : Ct} {G G1 G2 G' : List Md} {F F1 F' H H1 H' : Hp} {U U1 : List Addr} {σ : Sl} {ρ : DEnv} {fps fps1 : List (List Addr)} {ex : List Addr} {C : Cl} {pin : List (Nat × V)}
theorem Rel.lstAt (r : Rel C pin G F H σ ρ fps ex) {i : Nat} {l : List D} (e : lstOf (ρ[i]?).join = some l) (hm : G.getD i .fz = .ow 0) :
    ∃ a xs, σ[i]? = some (some (.ref a)) ∧ fps[i]? = some [a] ∧ H a = some (.lst xs) ∧ RepL C F l xs ∧ l.length ≤ sizeLine ∧ F a = none := by
  obtain ⟨v, fp, e1, e2, h⟩ := r.slot i _ (join_some (lstOf_eq e))
  rw [hm] at h
  obtain ⟨a, xs, g, rfl, rfl, h1, h2, h3⟩ := h
  obtain ⟨h4, rfl⟩ := OwnL.to_rep h2
  exact ⟨a, xs, e1, e2, h1, h4, h3, r.out a (List.mem_append_right _ (mem_flatten_get e2 List.mem_cons_self))⟩
theorem Rel.lstSet (r : Rel C pin G F H σ ρ fps ex) {i : Nat} {a : Addr} {l' : List D} {xs xs' : List V} (hs : σ[i]? = some (some (.ref a))) (hf : fps[i]? = some [a]) (hH : H a = some (.lst xs)) (hm : G.getD i .fz = .ow 0) (hr : RepL C F l' xs') (hl : l'.length ≤ sizeLine) :
    Rel C pin G F (upd H a (.lst xs')) σ (ρ.set i (some (.lst l'))) (fps.set i [a]) ex ∧ fps.set i [a] = fps ∧ Ext F H fps.flatten F (upd H a (.lst xs')) fps.flatten := by
  have ha : a ∈ fps.flatten := mem_flatten_get hf List.mem_cons_self
  have na : F a = none := r.out a (List.mem_append_right _ ha)
  refine ⟨r.change (k := 0) hf hm hs (fun b o e nb => by rw [upd_ne (fun z => nb (by rw [z]; exact List.mem_cons_self))]; exact e) (fun b hb => .inl hb) (by simp) (fun b hb => ?_) (fun b ys e => ?_) ?_, ?_, ⟨Sub.refl _, fun b o e nb => by rw [upd_ne (fun z => nb (by rw [z]; exact ha))]; exact e, fun _ _ e => .inl e, fun b hb => .inl hb⟩⟩
  · rw [List.mem_singleton.mp hb]; exact ⟨_, upd_same⟩
  · by_cases z : b = a
    · subst z; rw [upd_same] at e; cases e
    · rw [upd_ne z] at e; exact r.tups b ys e
  · exact ⟨a, xs', [], rfl, rfl, upd_same, OwnL.of_rep hr, hl⟩
  · apply List.ext_getElem?
    intro j
    by_cases hj : i = j
    · subst hj
      rw [List.getElem?_set_self (List.getElem?_eq_some_iff.mp hf).1, hf]
    · rw [List.getElem?_set_ne hj]
theorem mut_core {r : V → List V → Hp → VK → Prop} {op : List D → List D → Option (D × List D)} {i : Nat} {args : List D} {v : V} {vs : List V} {Q : VK} (pr : MutPrim T.C r op) (r1 : Rel T.C T.pin G1 F H σ ρ fps ex) (hm : G1.getD i .fz = .ow 0) (hv : σ[i]? = some (some v)) (hr : RepL T.C F args vs)
    (m : Rem T G1 (rV T.C) (match lstOf (ρ[i]?).join with
    | some l => (match op l args with
      | some (d, l') => .ok d (ρ.set i (some (.lst l')))
      | none => .bad)
    | none => .bad) F H fps ex σ Q) : r v vs H Q := by
  cases q1 : lstOf (ρ[i]?).join with
  | none => simp only [q1] at m; exact m.elim
  | some l =>
    simp only [q1] at m
    obtain ⟨a, xs, e1, e2, h1, h2, h3, h4⟩ := r1.lstAt q1 hm
    rw [e1] at hv; cases hv
    cases q2 : op l args with
    | none => simp only [q2] at m; exact m.elim
    | some p =>
      obtain ⟨d, l'⟩ := p
      simp only [q2] at m
      refine pr F H a l args l' xs vs d Q r1.sub h1 h2 h3 h4 hr q2 fun w xs' z1 z2 z3 => ?_
      obtain ⟨r2, ef, x⟩ := r1.lstSet e1 e2 h1 hm z2 z3
      rw [ef] at r2
      exact Rem.fin (fp := []) m x r2 ⟨rfl, z1⟩
theorem sv_mut {id : String} {r : V → List V → Hp → VK → Prop} {op : List D → List D → Option (D × List D)} {i : Nat} {x name : Str} {e : Expr} {es : List Expr} {ks : List (Option Nat)} {m : M (List D)} {xpos apos cpos : Pos} (pr : MutPrim T.C r op) (ok : T.Ok) (slot : Slot "list" name id) (hty : typeOf (.builtin id) = pure (.type "method_descriptor")) (hmt : MtM T.X id r)
    (hN : T.X.N[i]? = some x) (hv : Vis T.X.env.scope x) (hm : G.getD i .fz = .ow 0) (hm1 : G1.getD i .fz = .ow 0) (ha : SX T G (e :: es) ks G1 m) (hk : ks.all (· == none) = true := by rfl) (hd : (x == ("__debug__" : Str)) = false := by decide) (hcd : (x == ("__classdict__" : Str)) = false := by decide)
    (hbase : attributeBase (.Name x xpos) name T.X.env (eval (.Name x xpos) T.X.env) = eval (.Name x xpos) T.X.env := by rfl)
    (hfew : ((backTo cpos (starEach (e :: es) T.X.env)).all (fun x => !x.1) && (backToKw cpos (keywordEach [] T.X.env)).all (fun x => x.1.isSome)
      && decide ((e :: es).length + ([] : List Keyword).length + (if ([] : List Keyword).isEmpty then 0 else 1) < 30)) = true := by rfl)
    (hline : (apos.endLine == cpos.line) = true := by rfl) (hs : starEach (e :: es) T.X.env = (false, eval e T.X.env) :: starEach es T.X.env := by rfl) (hplain : (backTo cpos (starEach es T.X.env)).any (·.1) = false := by rfl) :
    SV T G (.Call (.Attribute (.Name x xpos) name apos) (e :: es) [] cpos) G1 (callMut i op m) :=
  PEimp (pe_bm PySem.F.plainAttrs_list slot hty hmt (pe_var hN hv hd hcd) ha hbase hfew hline hs hplain) fun σ H Q ⟨F, ρ, fps, ex, r0, m0⟩ => by
  unfold callMut at m0
  cases q0 : lstOf (ρ[i]?).join with
  | none => simp only [q0] at m0; exact m0.elim
  | some l0 =>
    simp only [q0] at m0
    obtain ⟨a, xs, e1, e2, h1, h2, h3, h4⟩ := r0.lstAt q0 hm
    refine ⟨.ref a, e1, .inl ⟨rfl, xs, SqL.of h1⟩, ?_⟩
    refine seqR r0 m0 fun args vs F1 H1 ρ1 fps1 fp1 x1 r1 z1 m1 => ?_
    obtain ⟨rfl, hr⟩ := z1.frozen hk
    exact mut_core pr r1 hm1 e1 hr m1
end
end DM
end
section
set_option autoImplicit false
set_option Elab.async false
set_option linter.all false
set_option maxRecDepth 100000
set_option maxHeartbeats 4000000
/-! DM18: isinstance, all, any, sum; a module's texts; while; name op= e. -/
namespace DM
open PySem PySem.Spec PyProof.Rows L2

/-! ### isinstance(x, a built-in type) -/
def tyS : D → Option String
  | .non => some "NoneType"
  | .bl _ => some "bool"
  | .int _ => some "int"
  | .str _ => some "str"
  | .tup _ => some "tuple"
  | .tpx _ => some "tuple"
  | .lst _ => some "list"
  | .dic _ _ => some "dict"
  | _ => none
def kT (a n : String) : Bool := a == n || (a == "bool" && n == "int")
def tysA : List String := ["NoneType", "bool", "int", "str", "tuple", "list", "dict"]
def tysN : List String := ["bool", "int", "str", "tuple", "list", "dict"]
theorem kT_all : (tysA.all fun a => tysN.all fun n => kitB a n == some (kT a n)) = true := by decide +kernel
theorem tyS_mem {d : D} {a : String} (h : tyS d = some a) : a ∈ tysA := by
  cases d <;> simp only [tyS, reduceCtorEq, Option.some.injEq] at h <;> subst h <;> decide
theorem kT_is {d : D} {a n : String} (h : tyS d = some a) (hn : n ∈ tysN) {K : PySem.W.Frag} : PySem.W.kitOne K (.type a) (.type n) = some (kT a n) := by
  refine kit_ty ?_
  have := List.all_eq_true.mp kT_all a (tyS_mem h)
  have := List.all_eq_true.mp this n hn
  exact eq_of_beq this
section
variable {C : Cl} {F H : Hp}
theorem tyx_of {d : D} {v : V} {a : String} (s : Sub F H) (h : Opd C F H d v) (e : tyS d = some a) : TyX C.K H v (.type a) := by
  have rd : ∀ {p : Addr} {kvs : List (Key × V)}, Rd H p (.dK kvs) → TyX C.K H (.ref p) (.type "dict") := fun r => by
    rcases r with r | ⟨o, r⟩
    · exact .base (.dK r)
    · exact .fDict r
  cases d <;> simp only [tyS, reduceCtorEq, Option.some.injEq] at e <;> subst e
  case non => rw [h.non]; exact .base .non
  case bl b => rw [h.bl]; exact .base (.bl b)
  case int i => rw [h.int]; exact .base (.int i)
  case str z => obtain ⟨rfl, _⟩ := h.str; exact .base (.str z)
  case tup l => obtain ⟨p, xs, rfl, h1, _⟩ := h.tup s; exact .base (.tup h1)
  case tpx l => obtain ⟨p, ob, xs, rfl, h1, _⟩ := h.tpx s; exact .fTuple h1
  case lst l => obtain ⟨p, xs, rfl, h1, _⟩ := h.lst s; exact .base (.lst h1)
  case dic ks vs => obtain ⟨p, xs, rfl, h1, _⟩ := h.dic s; exact rd h1
end
def isiD (n : String) (d : D) : Option D := (tyS d).map fun a => .bl (kT a n)
def isi2D (n m : String) (d : D) : Option D := (tyS d).map fun a => .bl (kT a n || kT a m)
def mIsi (op : D → Option D) (m : M Opn) : M D := bindM m fun o => fun ρ => match (resO ρ o).bind op with
  | some d => .ok d ρ
  | none => .bad
section
variable {T : Ct} {S : Gs} {G G1 G2 G' : List Md} {pos : Pos}
theorem sv_isi {e : Expr} {B : Option Nat} {m : M Opn} {n : Str} {ns : String} {p p2 : Pos} (ok : T.Ok) (hg : Gl T.X "isinstance") (hm : T.X.mg "isinstance" = none) (he : SO T G e B G' m) (hg2 : Gl T.X n) (hm2 : T.X.mg n = none) (hn : n = Str.ofString ns) (hmem : ns ∈ tysN)
    (hv2 : bootBuiltins n = some (.type ns)) (kb : okB G' B = true := by rfl) (hn2 : n ≠ "__name__" := by decide) (hd : (n == ("__debug__" : Str)) = false := by decide)
    (hs : starEach [e, .Name n p2] T.X.env = (false, eval e T.X.env) :: starEach [.Name n p2] T.X.env := by rfl) (hs2 : starEach [.Name n p2] T.X.env = (false, eval (.Name n p2) T.X.env) :: starEach [] T.X.env := by rfl) (hpl : (backTo pos (starEach [.Name n p2] T.X.env)).any (·.1) = false := by rfl) :
    SV T G (.Call (.Name "isinstance" p) [e, .Name n p2] [] pos) G' (mIsi (isiD ns) m) :=
  PEimp (pe_callB call_isi hg hm PyProof.Rows.boot_isinstance (pa_cons he (pa_cons (pe_bltn (v := .ty ns) hg2 hm2 hv2 rfl hn2 hd) pa_nil hs2) hs) (by decide) (by decide) hs hpl) fun σ H Q ⟨F, ρ, fps, ex, r0, m0⟩ => by
  refine seqR r0 m0 fun o v F1 H1 ρ1 fps1 fp1 e1 r1 z1 m1 => ?_
  obtain ⟨rfl, z1⟩ := z1
  cases q : resO ρ1 o with
  | none => simp only [q] at m1; exact m1.elim
  | some d =>
    simp only [q, Option.bind_some, isiD] at m1
    cases q2 : tyS d with
    | none => simp only [q2] at m1; exact m1.elim
    | some a =>
      simp only [q2] at m1
      have op := opd_of r1 z1 q kb
      have ty : TyX T.X.K H1 v (.type a) := by rw [← ok.hK]; exact tyx_of r1.sub op q2
      exact ⟨v, .ty ns, _, _, _, rfl, .ty ns, ty, kT_is q2 hmem, Rem.fin (fp := []) m1 (Ext.refl _ _ _) r1 ⟨rfl, rep_bl⟩⟩
theorem sv_isi2 {e : Expr} {B : Option Nat} {m : M Opn} {n n' : Str} {ns ns' : String} {p p2 p3 p4 : Pos} {kt} (ok : T.Ok) (hg : Gl T.X "isinstance") (hm : T.X.mg "isinstance" = none) (he : SO T G e B G' m) (hg2 : Gl T.X n) (hm2 : T.X.mg n = none) (hg3 : Gl T.X n') (hm3 : T.X.mg n' = none) (hmem : ns ∈ tysN) (hmem' : ns' ∈ tysN)
    (hv2 : bootBuiltins n = some (.type ns)) (hv3 : bootBuiltins n' = some (.type ns')) (kb : okB G' B = true := by rfl) (hn2 : n ≠ "__name__" := by decide) (hd : (n == ("__debug__" : Str)) = false := by decide) (hn3 : n' ≠ "__name__" := by decide) (hd3 : (n' == ("__debug__" : Str)) = false := by decide)
    (hs : starEach [e, .Tuple [.Name n p2, .Name n' p3] kt p4] T.X.env = (false, eval e T.X.env) :: starEach [.Tuple [.Name n p2, .Name n' p3] kt p4] T.X.env := by rfl) (hs2 : starEach [.Tuple [.Name n p2, .Name n' p3] kt p4] T.X.env = (false, eval (.Tuple [.Name n p2, .Name n' p3] kt p4) T.X.env) :: starEach [] T.X.env := by rfl)
    (hs3 : starEach [.Name n p2, .Name n' p3] T.X.env = (false, eval (.Name n p2) T.X.env) :: starEach [.Name n' p3] T.X.env := by rfl) (hs4 : starEach [.Name n' p3] T.X.env = (false, eval (.Name n' p3) T.X.env) :: starEach [] T.X.env := by rfl)
    (hpl : (backTo pos (starEach [.Tuple [.Name n p2, .Name n' p3] kt p4] T.X.env)).any (·.1) = false := by rfl) :
    SV T G (.Call (.Name "isinstance" p) [e, .Tuple [.Name n p2, .Name n' p3] kt p4] [] pos) G' (mIsi (isi2D ns ns') m) :=
  PEimp (pe_callB call_isiT hg hm PyProof.Rows.boot_isinstance (pa_cons he (pa_cons (pe_tup (pa_cons (pe_bltn (v := .ty ns) hg2 hm2 hv2 rfl hn2 hd) (pa_cons (pe_bltn (v := .ty ns') hg3 hm3 hv3 rfl hn3 hd3) pa_nil hs4) hs3)) pa_nil hs2) hs) (by decide) (by decide) hs hpl) fun σ H Q ⟨F, ρ, fps, ex, r0, m0⟩ => by
  refine seqR r0 m0 fun o v F1 H1 ρ1 fps1 fp1 e1 r1 z1 m1 => ?_
  obtain ⟨rfl, z1⟩ := z1
  cases q : resO ρ1 o with
  | none => simp only [q] at m1; exact m1.elim
  | some d =>
    simp only [q, Option.bind_some, isi2D] at m1
    cases q2 : tyS d with
    | none => simp only [q2] at m1; exact m1.elim
    | some a =>
      simp only [q2] at m1
      refine ⟨by show 2 ≤ sizeLine; decide, fun p hp => ?_⟩
      have r2 := r1.newF (o := .tup [.ty ns, .ty ns']) hp
      have op := opd_of r2 (z1.mono (Sub.upd (r1.sub.non hp))) q kb
      have ty : TyX T.X.K (upd H1 p (.tup [.ty ns, .ty ns'])) v (.type a) := by rw [← ok.hK]; exact tyx_of r2.sub op q2
      refine ⟨v, p, [.ty ns, .ty ns'], _, _, (kT a ns || kT a ns'), rfl, upd_same, .cons (.ty ns) (.cons (.ty ns') .nil), ty, ?_, Rem.fin (fp := []) m1 (Ext.newF r1.sub hp) r2 ⟨rfl, rep_bl⟩⟩
      refine kitAny_cons (kT_is q2 hmem) (fun e => ?_) fun e => by rw [e]; rfl
      refine kitAny_cons (kT_is q2 hmem') (fun e' => ?_) fun e' => by rw [e, e']; rfl
      rw [e, e']; exact kitAny_nil
end
/-! ### all, any, sum of a list -/
def blsD : List D → Option (List Bool)
  | [] => some []
  | .bl b :: ds => (blsD ds).map (b :: ·)
  | _ :: _ => none
def intsD : List D → Option (List Int)
  | [] => some []
  | .int b :: ds => (intsD ds).map (b :: ·)
  | _ :: _ => none
theorem bls_of {C : Cl} {F : Hp} : ∀ {ds : List D} {xs : List V} {bs : List Bool}, RepL C F ds xs → blsD ds = some bs → xs = bs.map V.bl
  | [], xs, bs, r, e => by unfold RepL at r; cases e; exact r
  | d :: ds, xs, bs, r, e => by
    unfold RepL at r
    obtain ⟨x, t, rfl, h1, h2⟩ := r
    cases d <;> simp only [blsD, reduceCtorEq] at e
    case bl b =>
      cases q : blsD ds with
      | none => rw [q] at e; cases e
      | some bs' =>
        rw [q] at e; cases e
        rw [bls_of h2 q]
        unfold Rep at h1
        rw [h1]; rfl
def lstD : D → Option (List D)
  | .lst l => some l
  | _ => none
theorem lstD_eq {d : D} {l : List D} (h : lstD d = some l) : d = .lst l := by
  cases d <;> simp only [lstD, reduceCtorEq, Option.some.injEq] at h
  rw [h]
def allD (d : D) : Option D := ((lstD d).bind blsD).map fun bs => .bl (bs.all id)
def anyD (d : D) : Option D := ((lstD d).bind blsD).map fun bs => .bl (bs.any id)
def sumD (d : D) : Option D := ((lstD d).bind intsD).map fun bs => .int bs.sum
section
variable {C : Cl}
theorem prim_all : PrimN C (rAll C.K) (fn1 allD) := prim_n1 fun F H d1 d x Q s h e q => by
  unfold allD at e
  cases q1 : lstD d1 with
  | none => rw [q1] at e; cases e
  | some l =>
    rw [lstD_eq q1] at h
    rw [q1, Option.bind_some] at e
    cases q2 : blsD l with
    | none => rw [q2] at e; cases e
    | some bs =>
      rw [q2] at e; cases e
      obtain ⟨a, xs, rfl, h1, h2, _⟩ := h.lst s
      rw [bls_of h2 q2] at h1
      exact ⟨a, bs, rfl, SqL.of h1, q _ _ _ _ (NewOk.plain rfl rep_bl)⟩
end
/-! ### a module's text -/
section
variable {T : Ct} {S : Gs} {G G1 G2 G' : List Md} {pos : Pos}
theorem sv_gstr {x z : Str} {t : Tok} (hg : Gl T.X x) (hm : T.X.mg x = some (.str z t)) (h1 : z.length ≤ sizeLine := by decide) (h2 : PyData.strOk z = true := by decide +kernel) (hd : (x == ("__debug__" : Str)) = false := by decide) : SV T G (.Name x pos) G (eC (.str z)) :=
  PEimp (pe_glob hg hm (v := .str z) ⟨t, rfl⟩ hd) fun σ H Q ⟨F, ρ, fps, ex, r, m⟩ => Rem.fin (fp := []) m (Ext.refl _ _ _) r ⟨rfl, rep_str h1 h2⟩
/-! ### name op= e, ints -/
def sAug (i : Nat) (f : Int → Int → Int) (m : M D) : M Fl := fun ρ => match (ρ[i]?).join with
  | some d => bindM m (fun e ρ' => match intD (fun i j => some (f i j)) d e with
    | some r => .ok .nx (ρ'.set i (some r))
    | none => .bad) ρ
  | none => .bad
theorem ss_aug {i : Nat} {x : Str} {e : Expr} {f : Int → Int → Int} {m : M D} {op : Operator} {pos' : Pos} (ok : T.Ok) (hi : T.X.N[i]? = some x) (hx : Loc T.X.env.scope x) (hl : T.X.N.length = G1.length) (he : SV T G e G1 m) (ho : PIp T.X op (ipI f)) (hm : G.getD i .fz = .fz) (hm1 : G1.getD i .fz = .fz) (hp : ∀ p ∈ T.pin, p.1 ≠ i)
    (hf : T.X.fn x = true ∨ T.X.env.scope.names.lookup x = some .local := by first | exact .inl rfl | exact .inr rfl | assumption) : SS T S G (.AugAssign (.Name x pos') op e pos) G1 (sAug i f m) :=
  PSimp (ps_aug ok.nd hi hx he ho hf) fun E σ H ⟨F, ρ, fps, r, mm⟩ => by
  unfold sAug at mm
  cases q : (ρ[i]?).join with
  | none => simp only [q] at mm; exact mm.elim
  | some d =>
    simp only [q] at mm
    obtain ⟨v, e1, z⟩ := r.fzv (join_some q) hm
    refine ⟨v, e1, ?_⟩
    refine seqS r mm fun d2 x F1 H1 ρ1 fps1 fp1 x1 r1 z1 m1 => ?_
    obtain ⟨rfl, z1⟩ := z1
    cases q2 : intD (fun i j => some (f i j)) d d2 with
    | none => simp only [q2] at m1; exact m1.elim
    | some dr =>
      simp only [q2] at m1
      have hil : i < ρ1.length := by rw [← r1.lg, ← hl]; exact (List.getElem?_eq_some_iff.mp hi).1
      cases d <;> cases d2 <;> simp only [intD, reduceCtorEq, Option.map_some, Option.some.injEq] at q2
      case int a b =>
        subst q2
        unfold Rep at z z1
        have r2 := r1.store (f := []) (md := .fz) (d := .int (f a b)) (v := .int (f a b)) hil hp ⟨rfl, rep_int⟩
        have eG : G1.set i .fz = G1 := by
          apply List.ext_getElem?
          intro j
          by_cases hj : i = j
          · subst hj
            have hlt : i < G1.length := by rw [← hl]; exact (List.getElem?_eq_some_iff.mp hi).1
            rw [List.getElem?_set_self hlt, List.getElem?_eq_getElem hlt]
            rw [List.getD_eq_getElem?_getD, List.getElem?_eq_getElem hlt] at hm1
            simp only [Option.getD_some] at hm1
            rw [hm1]
          · rw [List.getElem?_set_ne hj]
        rw [eG] at r2
        exact ⟨a, b, z, z1, m1 _ F1 H1 (fps1.set i []) ⟨Sub.refl _, fun _ _ e _ => e, fun _ _ e => .inl e, fun a ha => by
          rcases flatten_set_sub ha with q | q
          · cases q
          · exact .inl q⟩ r2⟩
end
/-! ### while -/
def whileL (c : M Bool) (body : M Fl) : Nat → DEnv → R Fl
  | 0, _ => .bad
  | n + 1, ρ => match c ρ with
    | .ok true ρ1 => (match body ρ1 with
      | .ok .nx ρ2 => whileL c body n ρ2
      | .ok .ct ρ2 => whileL c body n ρ2
      | .ok .bk ρ2 => .ok .nx ρ2
      | .ok (.rt d) ρ2 => .ok (.rt d) ρ2
      | .ex c ns vs ρ2 => .ex c ns vs ρ2
      | .bad => .bad)
    | .ok false ρ1 => .ok .nx ρ1
    | .ex c ns vs ρ1 => .ex c ns vs ρ1
    | .bad => .bad
open Classical in
noncomputable def sWhile (c : M Bool) (body : M Fl) : M Fl := fun ρ => if h : ∃ n, whileL c body n ρ ≠ .bad then whileL c body h.choose ρ else .bad
theorem whileL_mono {c : M Bool} {body : M Fl} : ∀ (n k : Nat) (ρ : DEnv), whileL c body n ρ ≠ .bad → whileL c body (n + k) ρ = whileL c body n ρ
  | 0, k, ρ, h => absurd rfl h
  | n + 1, k, ρ, h => by
    rw [Nat.add_right_comm]
    unfold whileL at h ⊢
    cases q : c ρ with
    | ex c' ns vs ρ1 => rfl
    | bad => rfl
    | ok b ρ1 =>
      cases b with
      | false => rfl
      | true =>
        simp only [q] at h ⊢
        cases q2 : body ρ1 with
        | ex c' ns vs ρ1 => rfl
        | bad => rfl
        | ok f ρ2 =>
          cases f with
          | nx => simp only [q2] at h ⊢; exact whileL_mono n k ρ2 h
          | ct => simp only [q2] at h ⊢; exact whileL_mono n k ρ2 h
          | bk => rfl
          | rt d => rfl
theorem sWhile_of {c : M Bool} {body : M Fl} {n : Nat} {ρ : DEnv} {r : R Fl} (h : whileL c body n ρ = r) (hr : r ≠ .bad) : sWhile c body ρ = r := by
  have hx : ∃ n, whileL c body n ρ ≠ .bad := ⟨n, by rw [h]; exact hr⟩
  unfold sWhile
  rw [dif_pos hx]
  have h1 := whileL_mono hx.choose n ρ hx.choose_spec
  have h2 := whileL_mono n hx.choose ρ (by rw [h]; exact hr)
  rw [← h1, Nat.add_comm, h2, h]
theorem sWhile_eq (c : M Bool) (body : M Fl) (ρ : DEnv) : sWhile c body ρ ≠ .bad → ∃ n, whileL c body n ρ = sWhile c body ρ := fun h => by
  unfold sWhile at h ⊢
  split at h
  · rename_i hx
    rw [dif_pos hx]
    exact ⟨_, rfl⟩
  · exact absurd rfl h
section
variable {T : Ct} {S : Gs} {G G1 G2 G' : List Md} {pos : Pos}
theorem ss_while {c : Expr} {body : List Stmt} {m : M Bool} {s : M Fl} (po : PassesOwn (model T.X.prog T.X.w) T.X.A T.X.env T.X.xe) (hc : ST T G c G m) (hb : SB T { S with gb := G, gc := G } G body G s) : SS T S G (.While c body [] pos) G (sWhile m s) :=
  PSimp (ps_while po hc hb) fun E σ H ⟨F, ρ, fps, r, mm⟩ => by
  have nb : sWhile m s ρ ≠ .bad := fun e => by rw [e] at mm; exact mm
  obtain ⟨n, en⟩ := sWhile_eq m s ρ nb
  rw [← en] at mm
  refine ⟨fun n σ' H' => ∃ F' ρ' fps', Rel T.C T.pin G F' H' σ' ρ' fps' [] ∧ RemS T S G (whileL m s n ρ') F' H' fps'.flatten E, ⟨n, F, ρ, fps, r, mm⟩, ?_⟩
  rintro n σ' H' ⟨F', ρ', fps', r', m'⟩
  cases n with
  | zero => exact m'.elim
  | succ n =>
    refine ⟨F', ρ', fps', [], r', ?_⟩
    unfold whileL at m'
    cases q : m ρ' with
    | ex c' ns vs ρ1 => simp only [q] at m'; exact m' σ'
    | bad => simp only [q] at m'; exact m'.elim
    | ok b ρ1 =>
      intro tb F1 H1 fps1 fp1 k1 r1 z1
      obtain ⟨rfl, rfl⟩ := z1
      cases b with
      | false =>
        simp only [q] at m'
        rw [if_neg (by decide)]
        exact m' σ' F1 H1 fps1 k1 r1
      | true =>
        simp only [q] at m'
        rw [if_pos rfl]
        refine ⟨fun σ'' H'' => ∃ F'' ρ'' fps'', Rel T.C T.pin G F'' H'' σ'' ρ'' fps'' [] ∧ RemS T S G (whileL m s n ρ'') F'' H'' fps''.flatten E, fun σ'' H'' q => ⟨n, Nat.lt_succ_self n, q⟩, F1, ρ1, fps1, r1, ?_⟩
        cases q2 : s ρ1 with
        | ex c' ns vs ρ2 => simp only [q2] at m'; exact fun σ4 => (m' σ4).step k1
        | bad => simp only [q2] at m'; exact m'.elim
        | ok f ρ2 =>
          cases f with
          | nx =>
            simp only [q2] at m'
            exact fun σ4 F4 H4 fps4 k4 r4 => ⟨F4, ρ2, fps4, r4, m'.step (Ext.trans k1 k4)⟩
          | ct =>
            simp only [q2] at m'
            exact fun σ4 F4 H4 fps4 k4 r4 => ⟨F4, ρ2, fps4, r4, m'.step (Ext.trans k1 k4)⟩
          | bk =>
            simp only [q2] at m'
            exact fun σ4 F4 H4 fps4 k4 r4 => m' σ4 F4 H4 fps4 (Ext.trans k1 k4) r4
          | rt d =>
            simp only [q2] at m'
            exact fun v4 σ4 F4 H4 fps4 fp4 k4 r4 z4 => m' v4 σ4 F4 H4 fps4 fp4 (Ext.trans k1 k4) r4 z4
end
end DM
end
section
set_option autoImplicit false
set_option Elab.async false
set_option linter.all false
set_option maxRecDepth 100000
set_option maxHeartbeats 4000000
/-! DM19: attributes, methods, classes. -/
namespace DM
open PySem PySem.Spec PyProof.Rows L2

theorem zip_lookup {C : Cl} {F : Hp} {f : Str} {d : D} : ∀ {ns : List Str} {ds : List D} {xs : List V}, RepL C F ds xs → (ns.zip ds).lookup f = some d → ∃ x, (ns.zip xs).lookup f = some x ∧ Rep C F d x
  | [], ds, xs, _, e => by simp at e
  | n :: ns, [], xs, _, e => by simp at e
  | n :: ns, d' :: ds, xs, h, e => by
    unfold RepL at h
    obtain ⟨x, r, rfl, h1, h2⟩ := h
    simp only [List.zip_cons_cons, List.lookup_cons] at e ⊢
    cases q : f == n with
    | true => rw [q] at e; cases e; exact ⟨x, rfl, h1⟩
    | false => rw [q] at e; exact zip_lookup h2 e
theorem zip_none {f : Str} : ∀ {ns : List Str} {xs : List V}, f ∉ ns → (ns.zip xs).lookup f = none
  | [], xs, _ => by simp
  | n :: ns, [], _ => by simp
  | n :: ns, x :: xs, h => by
    have : (f == n) = false := beq_eq_false_iff_ne.mpr fun e => h (by rw [e]; exact List.mem_cons_self)
    simp only [List.zip_cons_cons, List.lookup_cons, this]
    exact zip_none fun z => h (List.mem_cons_of_mem _ z)
/-- an attribute of an object of the class c -/
def fldD (c : String) (f : Str) : D → Option D
  | .obj c' ns vs => if c' = c then (ns.zip vs).lookup f else none
  | _ => none
def mUn (op : D → Option D) (m : M Opn) : M D := bindM m fun o => fun ρ => match (resO ρ o).bind op with
  | some d => .ok d ρ
  | none => .bad
def isObj (c : String) (m : Str) : D → Option Unit
  | .obj c' ns _ => if c' = c ∧ m ∉ ns then some () else none
  | _ => none
def mMeth (c : String) (m : Str) (g : Sig) (io : Option (Nat × Nat)) (mo : M Opn) (ma : M (List Opn)) : M D := bindM mo fun o => fun ρ => match (resO ρ o).bind (isObj c m) with
  | some _ => bindM ma (fun os => callB g io (o :: os)) ρ
  | none => .bad
/-- a method that keeps its promise -/
structure MtS (P : Program) (w : World) (K : PySem.W.Frag) (mg : Str → Option Value) (base : Heap) (C : Cl) (c : String) (m : Str) (k : Nat) (g : Sig) : Prop where
  ex : ∃ (A f : Addr) (fd : FuncData) (ps : List Str), C.cl c = some A ∧ Cls K A ∧ Meth K A m f ∧ FnG P w K mg base (L2.CX P w) k f fd ps (spOf C g) ∧ Binds K fd ps []
/-- a class that is made so -/
structure MkS (P : Program) (w : World) (K : PySem.W.Frag) (mg : Str → Option Value) (base : Heap) (C : Cl) (x : Str) (c : String) (k : Nat) (g : Sig) : Prop where
  ex : ∃ (A f : Addr) (fd : FuncData) (ps : List Str), mg x = some (.ref A) ∧ C.cl c = some A ∧ Mk K A f ∧ FnG P w K mg base (L2.CX P w) k f fd ps (spOf C g) ∧ Binds K fd ps []
/-- a class of the text -/
structure ClS (K : PySem.W.Frag) (C : Cl) (c : String) (fs : List Str) : Prop where
  ex : ∃ A, C.cl c = some A ∧ Cls K A ∧ ∀ f ∈ fs, NoAttr K A f
section
variable {X : Cx} {CX : CXT} {k : Nat} {f C : Addr} {fd : FuncData} {ps : List Str} {sp : Sp} {dvs : List V} {ds : List Value} {E : L2.St → XK} {x m : Str} {p pos apos : Pos} {e o : Expr} {es : List Expr} {ta : TE} {t : TA}
def tMethSD (C : Addr) (m : Str) (sp : Sp) (dvs : List V) (E : L2.St → XK) (ta : TE) (t : TA) : TE := fun σ H Q => ta σ H fun x H1 => ∃ a dx fs, x = .ref a ∧ H1 a = some (.ins C dx fs) ∧ fs.lookup m = none ∧
  t σ H1 fun vs H2 => sp (x :: (vs ++ dvs)) H2 Q (E σ)
theorem pe_methSD {pl : Sem Bool} (he : PE X o ta) (c : Cls X.K C) (hm : Meth X.K C m f) (F : FnG X.prog X.w X.K X.mg X.base CX k f fd ps sp) (hr : RoomG k X.A) (hb : Binds X.K fd ps ds) (hd : Vals dvs ds) (hx : ∀ σ, PassesAt CX X σ (E σ)) (ha : PA X (e :: es) t)
    (hst : starEach (e :: es) X.env = (false, eval e X.env) :: starEach es X.env := by rfl) (hpl : (backTo pos (starEach es X.env)).any (·.1) = false := by rfl)
    (ht : eval (.Call (.Attribute o m apos) (e :: es) [] pos) X.env = (do
      let ov ← eval o X.env
      standAt apos.atName
      let (f, first) ← holding [ov] (getMethod ov m pl)
      callWith pos f first (backTo pos (starEach (e :: es) X.env)) (backToKw pos (keywordEach [] X.env))) := by rfl) :
    PE X (.Call (.Attribute o m apos) (e :: es) [] pos) (tMethSD C m sp dvs E ta t) := by
  refine ⟨fun pins s σ H Q I h => ?_⟩
  refine PySem.W.methodCall_KW (pl := pl) (thn (he.run pins s σ H _ I h) fun u s1 ⟨x, H1, I1, rx, a, dx, fs, ex, ea, l, q⟩ => ?_) ht
  subst ex
  obtain rfl : u = Value.ref a := rx
  refine getmeth_ok I1 ea c hm l ?_
  refine PySem.W.callWith_K (first := [.ref a]) (h₀ := X.base) I.ok.mod.kin hm.kp (thn (ha.run pos pins s1 σ H1 _ I1 q) fun us s2 ⟨vs, H2, I2, r, q2⟩ => ⟨I2.kIn, ?_⟩) hst hpl
  exact run_fnG (us := .ref a :: us) (vs := .ref a :: vs) F hr hb hd (hx σ) I2 (.cons rfl r) q2
theorem pe_methSD0 {pl : Sem Bool} (he : PE X o ta) (c : Cls X.K C) (hm : Meth X.K C m f) (F : FnG X.prog X.w X.K X.mg X.base CX k f fd ps sp) (hr : RoomG k X.A) (hb : Binds X.K fd ps ds) (hd : Vals dvs ds) (hx : ∀ σ, PassesAt CX X σ (E σ))
    (ht : eval (.Call (.Attribute o m apos) [] [] pos) X.env = (do
      let ov ← eval o X.env
      standAt apos.atName
      let (f, first) ← holding [ov] (getMethod ov m pl)
      callWith pos f first (backTo pos (starEach [] X.env)) (backToKw pos (keywordEach [] X.env))) := by rfl) :
    PE X (.Call (.Attribute o m apos) [] [] pos) (tMethSD C m sp dvs E ta tNil) := by
  refine ⟨fun pins s σ H Q I h => ?_⟩
  refine PySem.W.methodCall_KW (pl := pl) (thn (he.run pins s σ H _ I h) fun u s1 ⟨x, H1, I1, rx, a, dx, fs, ex, ea, l, q⟩ => ?_) ht
  subst ex
  obtain rfl : u = Value.ref a := rx
  refine getmeth_ok I1 ea c hm l ?_
  exact PySem.W.callWith_K0 (first := [.ref a]) I1.kIn hm.kp (run_fnG (us := [.ref a]) (vs := [.ref a]) F hr hb hd (hx σ) I1 (.cons rfl .nil) q)
theorem run_makeSD {pins : List (Addr × Obj)} {σ : L2.St} {H : Hp} {s : Shared} {Q : VK} {us : List Value} {vs : List V} (M : Mk X.K C f) (F : FnG X.prog X.w X.K X.mg X.base CX k f fd ps sp) (hr : RoomG (k + 1) X.A) (hb : Binds X.K fd ps ds) (hd : Vals dvs ds)
    (hx : PassesAt CX X σ (E σ)) (I : Inv X pins σ H s) (r : Vals vs us)
    (h : ∀ x dx, H x = none → H dx = none → dx ≠ x → sp (.ref x :: (vs ++ dvs)) (upd (upd H dx (.own x)) x (.ins C dx [])) (fun v H2 => v = .non ∧ Q (.ref x) H2) (E σ)) :
    wpAny (model X.prog X.w) X.A (call (.ref C) us) (EP X pins σ Q) X.xe s := by
  have hq := h (s.heap.objs.size + 1) s.heap.objs.size (I.hok.fresh (Nat.le_succ _)) (I.hok.fresh (Nat.le_refl _)) (Nat.ne_of_lt (Nat.lt_succ_self _))
  have I2 := Inv.made (C := C) I
  have r2 : Vals (V.ref (s.heap.objs.size + 1) :: (vs ++ dvs)) (Value.ref (s.heap.objs.size + 1) :: (us ++ ds)) := .cons rfl (r.append hd)
  have hl : (Value.ref (s.heap.objs.size + 1) :: us ++ ds).length = ps.length := by
    have e := r2.length
    rw [F.len _ _ _ _ hq] at e
    exact e.symm
  refine wpAny_call (make_map (f := f) I.kIn M.makes M.init (beq_iff_eq.mp M.fn) (codeAny_mono (F.run _ X.stack _ _ ⟨Value.ref (s.heap.objs.size + 1) :: us, []⟩ (Value.ref (s.heap.objs.size + 1) :: (us ++ ds)) _ _ (E σ) (hr.make C us [])
    (I2.env0.make C us []) (hb _ (Value.ref (s.heap.objs.size + 1) :: us) I2.kIn hl) r2 hq) fun r s' hq' => ?_))
  cases r with
  | error e => exact hx pins _ _ e s' I2 hq'
  | ok fl =>
    cases fl with
    | ret u =>
      obtain ⟨v, H', I3, rv, ev, q3⟩ := I2.after hq'
      subst ev
      exact ⟨rv, ⟨V.ref (s.heap.objs.size + 1), H', I3, rfl, q3⟩⟩
    | next => exact False.elim hq'
    | brk => exact False.elim hq'
    | cont => exact False.elim hq'
def tMakeSD (C : Addr) (sp : Sp) (dvs : List V) (E : L2.St → XK) (t : TA) : TE := fun σ H Q => t σ H fun vs H1 => ∀ x dx, H1 x = none → H1 dx = none → dx ≠ x →
  sp (.ref x :: (vs ++ dvs)) (upd (upd H1 dx (.own x)) x (.ins C dx [])) (fun v H2 => v = .non ∧ Q (.ref x) H2) (E σ)
theorem pe_makeSD (M : Mk X.K C f) (F : FnG X.prog X.w X.K X.mg X.base CX k f fd ps sp) (hr : RoomG (k + 1) X.A) (hg : Gl X x) (hm : X.mg x = some (.ref C)) (hb : Binds X.K fd ps ds) (hd : Vals dvs ds) (hx : ∀ σ, PassesAt CX X σ (E σ))
    (ha : PA X (e :: es) t) (hdb : (x == ("__debug__" : Str)) = false := by decide) (he : starEach (e :: es) X.env = (false, eval e X.env) :: starEach es X.env := by rfl) (hpl : (backTo pos (starEach es X.env)).any (·.1) = false := by rfl) :
    PE X (.Call (.Name x p) (e :: es) [] pos) (tMakeSD C sp dvs E t) := by
  refine ⟨fun pins s σ H Q I h => ?_⟩
  refine wpAny_Call_Name_kw (ld_glob I hg hm ?_ hdb)
  refine PySem.W.callWith_K (h₀ := X.base) I.ok.mod.kin M.kp (thn (ha.run pos pins s σ H _ I h) fun us s1 ⟨vs, H1, I1, r, q⟩ => ⟨I1.kIn, ?_⟩) he hpl
  exact run_makeSD M F hr hb hd (hx σ) I1 r q
end
section
variable {T : Ct} {S : Gs} {G G1 G2 G' : List Md} {pos : Pos} {F F1 F' H H1 H' : Hp} {σ : Sl} {ρ : DEnv} {fps : List (List Addr)} {ex : List Addr} {C : Cl} {pin : List (Nat × V)}
theorem sv_fld {e : Expr} {f : Str} {c : String} {fs : List Str} {B : Option Nat} {m : M Opn} (ok : T.Ok) (cs : ClS T.X.K T.C c fs) (hf : f ∈ fs) (he : SO T G e B G' m) (kb : okB G' B = true := by rfl) (hb : attributeBase e f T.X.env (eval e T.X.env) = eval e T.X.env := by rfl) :
    SV T G (.Attribute e f pos) G' (mUn (fldD c f) m) := PEimp (pe_fld he hb) fun σ H Q ⟨F, ρ, fps, ex, r0, m0⟩ => by
  obtain ⟨A, hA, hc, hn⟩ := cs.ex
  refine seqR r0 m0 fun o v F1 H1 ρ1 fps1 fp1 e1 r1 z1 m1 => ?_
  obtain ⟨rfl, z1⟩ := z1
  cases q : resO ρ1 o with
  | none => simp only [q] at m1; exact m1.elim
  | some d =>
    simp only [q, Option.bind_some] at m1
    cases q2 : fldD c f d with
    | none => simp only [q2] at m1; exact m1.elim
    | some d' =>
      simp only [q2] at m1
      have op := opd_of r1 z1 q kb
      cases d <;> simp only [fldD, reduceCtorEq] at q2
      case obj c' ns vs =>
        split at q2
        · rename_i ec
          subst ec
          obtain ⟨a, A', dx, xs, rfl, h0, h1, h2, h3⟩ := op.obj r1.sub
          rw [hA] at h0; cases h0
          obtain ⟨x, hx, hr⟩ := zip_lookup h2 q2
          exact ⟨a, A, dx, _, x, rfl, h1, hc, hn f hf, hx, Rem.fin (fp := []) m1 (Ext.refl _ _ _) r1 ⟨rfl, hr⟩⟩
        · cases q2
theorem px_meth {g : Sig} {io : Option (Nat × Nat)} {B : Option Nat} {Bs : List (Option Nat)} {c : String} {x : Str} {k : Nat} {apos : Pos} {o e : Expr} {es : List Expr} {mo : M Opn} {m : M (List Opn)} (ok : T.Ok) (f : MtS T.X.prog T.X.w T.X.K T.X.mg T.X.base T.C c x k g) (hr : RoomG k T.X.A)
    (ho1 : SO T G o B G1 mo) (ha : SA T G1 (e :: es) Bs G' m) (ho : okP G' io 0 g.ms (B :: Bs) = true) (hio : okIo g.ms io = true) (hgx : leG T.gx G' = true) (kb : okB G1 B = true := by rfl) (he : starEach (e :: es) T.X.env = (false, eval e T.X.env) :: starEach es T.X.env := by rfl) (hpl : (backTo pos (starEach es T.X.env)).any (·.1) = false := by rfl)
    {pl : Sem Bool} (ht : eval (.Call (.Attribute o x apos) (e :: es) [] pos) T.X.env = (do
      let ov ← eval o T.X.env
      standAt apos.atName
      let (f, first) ← holding [ov] (getMethod ov x pl)
      callWith pos f first (backTo pos (starEach (e :: es) T.X.env)) (backToKw pos (keywordEach [] T.X.env))) := by rfl) :
    PE T.X (.Call (.Attribute o x apos) (e :: es) [] pos) (tG T G G' (rrOf T.C g.rk) (mMeth c x g io mo m)) := by
  obtain ⟨A, fa, fd, ps, hA, hc, hm, F, hb⟩ := f.ex
  refine PEimp (pe_methSD (pl := pl) (E := WE T.W) ho1 hc hm F hr hb .nil (fun σ => passAt ok.tk σ) ha he hpl ht) fun σ H Q ⟨F0, ρ, fps, ex, r0, m0⟩ => ?_
  refine seqR r0 m0 fun o v F1 H1 ρ1 fps1 fp1 e1 r1 z1 m1 => ?_
  obtain ⟨rfl, z1⟩ := z1
  cases q : resO ρ1 o with
  | none => simp only [q] at m1; exact m1.elim
  | some d =>
    simp only [q, Option.bind_some] at m1
    cases q2 : isObj c x d with
    | none => simp only [q2] at m1; exact m1.elim
    | some d' =>
      simp only [q2] at m1
      have op := opd_of r1 z1 q kb
      cases d <;> simp only [isObj, reduceCtorEq] at q2
      case obj c' ns vs =>
        split at q2
        · rename_i ec
          obtain ⟨rfl, hns⟩ := ec
          obtain ⟨a, A', dx, xs, rfl, h0, h1, h2, h3⟩ := op.obj r1.sub
          rw [hA] at h0; cases h0
          refine ⟨a, dx, _, rfl, h1, zip_none hns, ?_⟩
          refine seqR r1 m1 fun os vs F2 H2 ρ2 fps2 fp2 e2 r2 z2 m2 => ?_
          obtain ⟨rfl, z2⟩ := z2
          rw [List.append_nil]
          exact call_core (os := o :: os) (Bs := B :: Bs) r2 ⟨z1.mono e2.e1, z2⟩ ho hio hgx m2
        · cases q2
theorem px_meth0 {g : Sig} {io : Option (Nat × Nat)} {B : Option Nat} {c : String} {x : Str} {k : Nat} {apos : Pos} {o : Expr} {mo : M Opn} (ok : T.Ok) (f : MtS T.X.prog T.X.w T.X.K T.X.mg T.X.base T.C c x k g) (hr : RoomG k T.X.A)
    (ho1 : SO T G o B G1 mo) (ho : okP G1 io 0 g.ms [B] = true) (hio : okIo g.ms io = true) (hgx : leG T.gx G1 = true) (kb : okB G1 B = true := by rfl)
    {pl : Sem Bool} (ht : eval (.Call (.Attribute o x apos) [] [] pos) T.X.env = (do
      let ov ← eval o T.X.env
      standAt apos.atName
      let (f, first) ← holding [ov] (getMethod ov x pl)
      callWith pos f first (backTo pos (starEach [] T.X.env)) (backToKw pos (keywordEach [] T.X.env))) := by rfl) :
    PE T.X (.Call (.Attribute o x apos) [] [] pos) (tG T G G1 (rrOf T.C g.rk) (mMeth c x g io mo (retM []))) := by
  obtain ⟨A, fa, fd, ps, hA, hc, hm, F, hb⟩ := f.ex
  refine PEimp (pe_methSD0 (pl := pl) (E := WE T.W) ho1 hc hm F hr hb .nil (fun σ => passAt ok.tk σ) ht) fun σ H Q ⟨F0, ρ, fps, ex, r0, m0⟩ => ?_
  refine seqR r0 m0 fun o v F1 H1 ρ1 fps1 fp1 e1 r1 z1 m1 => ?_
  obtain ⟨rfl, z1⟩ := z1
  cases q : resO ρ1 o with
  | none => simp only [q] at m1; exact m1.elim
  | some d =>
    simp only [q, Option.bind_some] at m1
    cases q2 : isObj c x d with
    | none => simp only [q2] at m1; exact m1.elim
    | some d' =>
      simp only [q2] at m1
      have op := opd_of r1 z1 q kb
      cases d <;> simp only [isObj, reduceCtorEq] at q2
      case obj c' ns vs =>
        split at q2
        · rename_i ec
          obtain ⟨rfl, hns⟩ := ec
          obtain ⟨a, A', dx, xs, rfl, h0, h1, h2, h3⟩ := op.obj r1.sub
          rw [hA] at h0; cases h0
          refine ⟨a, dx, _, rfl, h1, zip_none hns, ?_⟩
          exact call_core (os := [o]) (Bs := [B]) r1 ⟨z1, trivial⟩ ho hio hgx m1
        · cases q2
/-! ### a new object -/
theorem Rel.lay (r : Rel C pin G F H σ ρ fps ex) {p : Addr} {o : HO} (h : H p = none) (nt : ∀ xs, o ≠ .tup xs) : Rel C pin G F (upd H p o) σ ρ fps ex :=
  (r.new h nt).less (fun a ha => List.mem_cons_of_mem _ ha) (List.nodup_append.mp r.nd).1
theorem Rel.consOwn {f : List Addr} {k : Nat} {d : D} {v : V} {ms : List Md} (r : Rel C [] ms F H σ ρ fps f) (z : Own C F H (k + 1) d v f) : Rel C [] (.ow k :: ms) F H (some v :: σ) (some d :: ρ) (f :: fps) [] := by
  refine ⟨r.sub, r.tups, by simp [r.ls], by simp [r.lf], by simp [r.lg], by simpa using r.nd, by simpa using r.out, by simpa using r.live, fun i d' e => ?_, fun p hp => nomatch hp⟩
  cases i with
  | zero =>
    simp only [List.getElem?_cons_zero, Option.some.injEq] at e
    subst e
    exact ⟨v, f, rfl, rfl, z⟩
  | succ i =>
    obtain ⟨v', fp, e1, e2, h⟩ := r.slot i d' (by simpa using e)
    refine ⟨v', fp, by simpa using e1, by simpa using e2, ?_⟩
    have : (Md.ow k :: ms).getD (i + 1) .fz = ms.getD i .fz := by simp
    rw [this]
    exact h.less fun a ha _ => by simpa using ha
def makeB (c : String) (g : Sig) (os : List Opn) : M D := fun ρ => match resL ρ os with
  | some ds => (match g.m (.obj c [] [] :: ds) with
    | .ok .non ρo => (match (ρo[0]?).join with
      | some d' => .ok d' ρ
      | none => .bad)
    | .ok _ _ => .bad
    | .ex c ns vs _ => .ex c ns vs ρ
    | .bad => .bad)
  | none => .bad
def makeM (c : String) (g : Sig) (m : M (List Opn)) : M D := bindM m (makeB c g)
theorem sf_make {g : Sig} {Bs : List (Option Nat)} {x : Str} {c : String} {k n : Nat} {ms' : List Md} {p : Pos} {e : Expr} {es : List Expr} {m : M (List Opn)} (ok : T.Ok) (f : MkS T.X.prog T.X.w T.X.K T.X.mg T.X.base T.C x c k g) (hr : RoomG (k + 1) T.X.A) (hg : Gl T.X x) (hms : g.ms = .ow n :: ms') (hrk : g.rk = none)
    (ha : SA T G (e :: es) Bs G' m) (ho : okP G' none 0 ms' Bs = true) (hgx : leG T.gx G' = true) (hdb : (x == ("__debug__" : Str)) = false := by decide) (he : starEach (e :: es) T.X.env = (false, eval e T.X.env) :: starEach es T.X.env := by rfl) (hpl : (backTo pos (starEach es T.X.env)).any (·.1) = false := by rfl) :
    SF T G (.Call (.Name x p) (e :: es) [] pos) n G' (makeM c g m) := by
  obtain ⟨A, fa, fd, ps, hm, hA, hM, F, hb⟩ := f.ex
  refine PEimp (pe_makeSD (E := WE T.W) hM F hr hg hm hb .nil (fun σ => passAt ok.tk σ) ha hdb he hpl) fun σ H Q ⟨F0, ρ, fps, ex, r0, m0⟩ => ?_
  refine seqR r0 m0 fun os vs F1 H1 ρ1 fps1 fp1 e1 r1 z1 m1 => ?_
  obtain ⟨rfl, z1⟩ := z1
  intro y dx hy hdx hne
  rw [List.append_nil]
  unfold makeB at m1
  cases q : resL ρ1 os with
  | none => simp only [q] at m1; exact m1.elim
  | some ds =>
    simp only [q] at m1
    obtain ⟨hl, rc, flat⟩ := r1.callee (io := none) z1 q ho rfl
    have hy2 : upd H1 dx (.own y) y = none := by rw [upd_ne (Ne.symm hne)]; exact hy
    have rc2 := (rc.lay (o := .own y) hdx (fun _ e => by cases e)).new (o := .ins A dx []) hy2 (fun _ e => by cases e)
    have own0 : Own T.C F1 (upd (upd H1 dx (.own y)) y (.ins A dx [])) (n + 1) (.obj c [] []) (.ref y) [y] := ⟨y, A, dx, [], [], rfl, rfl, hA, upd_same, ⟨rfl, rfl⟩, rfl⟩
    have rc3 := rc2.consOwn own0
    have x0 : Ext F1 H1 [] F1 (upd (upd H1 dx (.own y)) y (.ins A dx [])) [y] := ⟨Sub.refl _, fun a o ea _ => by
      rw [upd_ne (ne_of_none ea hy), upd_ne (ne_of_none ea hdx)]; exact ea, fun _ _ e => .inl e, fun a ha => by rw [List.mem_singleton.mp ha]; exact .inr hy⟩
    refine ⟨by rw [hms]; simp [hl], F1, .obj c [] [] :: ds, _, by rw [hms]; exact rc3, ?_⟩
    have fl : ([y] :: fpsC ms'.length fps1 none).flatten = [y] := by
      have flat : (fpsC ms'.length fps1 none).flatten = [] := flat
      rw [List.flatten_cons, flat]; rfl
    rw [fl]
    cases q2 : g.m (.obj c [] [] :: ds) with
    | bad => simp only [q2] at m1; exact m1.elim
    | ex c' ns xs ρo =>
      simp only [q2] at m1
      intro cls dx' F' H' fps' x r' z
      obtain ⟨x2, r2⟩ := r1.after0 (fp := []) ((x0.trans x).less fun a ha => nomatch ha) r'.sub r'.tups List.nodup_nil (fun a ha => nomatch ha) fun a ha => nomatch ha
      obtain ⟨F2, fps2, x3, r3⟩ := r2.weak_ex.weaken hgx
      exact m1 cls dx' F2 H' fps2 (x2.trans x3) r3 (by
        obtain ⟨A, h1, h2, h3⟩ := z
        refine ⟨A, h1, h2, h3.imp_right ?_⟩
        rintro ⟨a, xs', h4, h5, h6, h7⟩
        exact ⟨a, xs', h4, x3.e1 _ _ h5, RepL.mono x3.e1 _ _ h6, h7⟩)
    | ok d ρo =>
      intro v F' H' fps' fp x r' z
      rw [hrk] at z
      obtain ⟨rfl, z⟩ := z
      simp only [q2] at m1
      cases d <;> first | exact m1.elim | skip
      unfold Rep at z
      cases q3 : (ρo[0]?).join with
      | none => simp only [q3] at m1; exact m1.elim
      | some d' =>
        simp only [q3] at m1
        obtain ⟨v0, f', e7, e8, own⟩ := r'.slot 0 d' (join_some q3)
        have ev : v0 = .ref y := by simpa using e7.symm
        subst ev
        rw [hms] at own
        have own : Own T.C F' H' (n + 1) d' (.ref y) f' := own
        have n0 := List.nodup_append.mp r'.nd
        have sub : ∀ a ∈ f', a ∈ fps'.flatten := fun a ha => mem_flatten_get e8 ha
        obtain ⟨x2, r2⟩ := r1.after0 (fp := f') ((x0.trans x).less fun a ha => List.mem_append_right _ (sub a ha)) r'.sub r'.tups (part_nodup n0.2.1 e8) (fun a ha => r'.out a (List.mem_append_right _ (sub a ha))) fun a ha => r'.live a (List.mem_append_right _ (sub a ha))
        exact ⟨z, Rem.fin m1 x2 r2 own⟩
end
end DM
end
section
set_option autoImplicit false
set_option Elab.async false
set_option linter.all false
set_option maxRecDepth 100000
set_option maxHeartbeats 4000000
/-! DM20: dicts; attributes that are set. -/
namespace DM
open PySem PySem.Spec PyProof.Rows L2

section
variable {κ α : Type} [DecidableEq κ]
def putKs (ks : List κ) (k : κ) : List κ := if k ∈ ks then ks else ks ++ [k]
def putVs (ks : List κ) (vs : List α) (k : κ) (d : α) : List α := if k ∈ ks then (ks.zip vs).map (fun p => if p.1 = k then d else p.2) else vs ++ [d]
theorem any_zip {k : κ} : ∀ {ks : List κ} {vs : List V}, ks.length = vs.length → ((ks.zip vs).any fun kv => decide (kv.1 = k)) = decide (k ∈ ks)
  | [], [], _ => by simp
  | [], _ :: _, h => by cases h
  | _ :: _, [], h => by cases h
  | k' :: ks, v :: vs, h => by
    have ih := any_zip (k := k) (ks := ks) (vs := vs) (by simpa using h)
    simp only [List.zip_cons_cons, List.any_cons, ih]
    by_cases e : k' = k
    · subst e; simp
    · have : ¬ k = k' := fun z => e z.symm
      simp [e, this]
theorem map_zip {k : κ} {x : V} : ∀ {ks : List κ} {vs : List V}, ks.length = vs.length → (ks.zip vs).map (fun kv => if kv.1 = k then (kv.1, x) else kv) = ks.zip ((ks.zip vs).map fun p => if p.1 = k then x else p.2)
  | [], [], _ => by simp
  | [], _ :: _, h => by cases h
  | _ :: _, [], h => by cases h
  | k' :: ks, v :: vs, h => by
    have ih := map_zip (k := k) (x := x) (ks := ks) (vs := vs) (by simpa using h)
    simp only [List.zip_cons_cons, List.map_cons, ih]
    by_cases e : k' = k
    · simp [e]
    · simp [e]
theorem putK_zip {ks : List κ} {vs : List V} {k : κ} {x : V} (h : ks.length = vs.length) : putK (ks.zip vs) k x = (putKs ks k).zip (putVs ks vs k x) := by
  unfold putK putKs putVs
  rw [any_zip h]
  by_cases e : k ∈ ks
  · simp only [e, decide_true, if_pos]
    exact map_zip h
  · simp only [e, decide_false, if_neg, Bool.false_eq_true]
    rw [if_neg (by simp)]
    have : [(k, x)] = [k].zip [x] := rfl
    rw [this, ← List.zip_append h]
    rfl
theorem putVs_len {ks : List κ} {vs : List α} {k : κ} {x : α} (h : ks.length = vs.length) : (putKs ks k).length = (putVs ks vs k x).length := by
  unfold putKs putVs
  by_cases e : k ∈ ks
  · simp only [e, if_true]; simp [h]
  · simp only [e, if_false]; simp [h]
theorem putVs_le {ks : List κ} {vs : List α} {k : κ} {x : α} (h : ks.length = vs.length) : (putVs ks vs k x).length ≤ vs.length + 1 := by
  unfold putVs
  by_cases e : k ∈ ks
  · simp only [e, if_true]; simp [h]
  · simp only [e, if_false]; simp
end
/-- d[k] = v on a dict that is ours -/
def dputD (d k v : D) : Option D := match d, k with
  | .dic ks vs, .int i => if vs.length < sizeLine then some (.dic (putKs ks (.inl i)) (putVs ks vs (.inl i) v)) else none
  | .dic ks vs, .str i => if vs.length < sizeLine then some (.dic (putKs ks (.inr i)) (putVs ks vs (.inr i) v)) else none
  | .dct ks vs, .tup ds => if vs.length < sizeLine then (keysOf ds).map fun k => .dct (putKs ks k) (putVs ks vs k v) else none
  | _, _ => none
section
variable {T : Ct} {S : Gs} {G G1 G2 G3 G' : List Md} {pos : Pos} {F F1 F' H H1 H' : Hp} {σ : Sl} {ρ : DEnv} {fps : List (List Addr)} {ex : List Addr} {C : Cl} {pin : List (Nat × V)}
theorem sf_dnewT {n : Nat} : SF T G (.Dict [] [] pos) n G (eC (.dct [] [])) := PEimp pe_dnewT fun σ H Q ⟨F, ρ, fps, ex, r, m⟩ => fun p hp => by
  have r2 := r.new (o := .dT []) hp (fun _ e => by cases e)
  exact Rem.fin m (Ext.new hp) r2 ⟨p, [], [], rfl, rfl, upd_same, ⟨rfl, rfl⟩, rfl, Nat.zero_le _⟩
/-! ### displays -/
def rPr (C : Cl) (ks : List (Option Nat)) : RRel (List (D × D)) (List (V × V)) := fun ds _ F H _ vs fp => RepL C F (ds.map (·.1)) (vs.map (·.1)) ∧ XV C F H ks (ds.map (·.2)) (vs.map (·.2)) fp
def SPs (T : Ct) (G : List Md) (pos : Pos) (keys : List (Option Expr)) (values : List Expr) (ks : List (Option Nat)) (G' : List Md) (m : M (List (D × D))) (trs : List (TE × TE)) : Prop := PPs T.X pos keys values trs ∧ ∀ σ H Q, tG T G G' (rPr T.C ks) m σ H Q → tPairs trs σ H Q
theorem sps_nil : SPs T G pos [] [] [] G (retM []) [] := ⟨pps_nil, fun σ H Q ⟨F, ρ, fps, ex, r, m⟩ => Rem.fin (fp := []) m (Ext.refl _ _ _) r ⟨RepL.nil, rfl⟩⟩
def pCons (f g : M D) (m : M (List (D × D))) : M (List (D × D)) := bindM f fun k => bindM g fun d => bindM m fun ds => retM ((k, d) :: ds)
theorem sps_cons {k v : Expr} {keys : List (Option Expr)} {values : List Expr} {n : Option Nat} {ks : List (Option Nat)} {f g : M D} {m : M (List (D × D))} {trs : List (TE × TE)} (hk : SV T G k G1 f) (hv : PE T.X v (tG T G1 G2 (rrOf T.C n) g)) (hr : SPs T G2 pos keys values ks G3 m trs) :
    SPs T G pos (some k :: keys) (v :: values) (n :: ks) G3 (pCons f g m) ((tG T G G1 (rV T.C) f, tG T G1 G2 (rrOf T.C n) g) :: trs) := ⟨pps_cons hk hv hr.1, fun σ H Q ⟨F, ρ, fps, ex, r0, m0⟩ => by
  refine seqU r0 m0 (fun a ha => ha) fun kd kx F1 H1 ρ1 fps1 fp1 e1 r1 z1 m1 => ?_
  obtain ⟨rfl, z1⟩ := z1
  rw [List.nil_append] at r1
  refine seqU r1 m1 (fun a ha => List.mem_append_left _ (by simpa using ha)) fun d x F2 H2 ρ2 fps2 fp2 e2 r2 z2 m2 => ?_
  refine hr.2 σ H2 _ ?_
  refine seqU r2 m2 (fun a ha => List.mem_append_left _ (List.mem_append_right _ ha)) fun ds xs F3 H3 ρ3 fps3 fp3 e3 r3 z3 m3 => ?_
  have n2 := List.nodup_append.mp r2.nd
  have ap2 : ∀ a ∈ fp2, a ∉ fps2.flatten := fun a ha hz => n2.2.2 a (List.mem_append_left _ ha) a hz rfl
  refine RemU.fin (fp := fp2 ++ fp3) m3 (fun a ha => ?_) (r3.perm (fun a => ?_) ?_) ⟨RepL.cons (Rep.mono (e2.e1.trans e3.e1) _ _ z1) z3.1, fp2, fp3, rfl, z2.mono e3.e1 (fun a ha o e => e3.e2 a o e (ap2 a ha)), z3.2⟩
  · simp only [List.mem_append] at ha ⊢
    rcases ha with (z | z) | z
    · exact .inr (.inl (.inl z))
    · exact .inl (.inl z)
    · exact .inl (.inr z)
  · simp only [List.mem_append]
    constructor
    · rintro ((z | z) | z)
      · exact .inr (.inl z)
      · exact .inl z
      · exact .inr (.inr z)
    · rintro (z | z | z)
      · exact .inl (.inr z)
      · exact .inl (.inl z)
      · exact .inr z
  · have nn := List.nodup_append.mp r3.nd
    have n2 := List.nodup_append.mp nn.1
    have n3 := List.nodup_append.mp n2.2.1
    refine List.nodup_append.mpr ⟨List.nodup_append.mpr ⟨n3.1, n2.1, fun a ha b hb e => n2.2.2 b hb a (List.mem_append_left _ ha) e.symm⟩, n3.2.1, fun a ha b hb e => ?_⟩
    rcases List.mem_append.mp ha with z | z
    · exact n3.2.2 a z b hb e
    · exact n2.2.2 a z b (List.mem_append_right _ hb) e⟩
theorem merge_nodup : ∀ {ks : List Key} {xs : List V} {as : List Key} {ys : List V}, ks.length = xs.length → as.length = ys.length → (as ++ ks).Nodup → mergeK (as.zip ys) (ks.zip xs) = (as ++ ks).zip (ys ++ xs)
  | [], [], as, ys, _, _, _ => by simp [mergeK]
  | [], _ :: _, _, _, h, _, _ => by cases h
  | _ :: _, [], _, _, h, _, _ => by cases h
  | k :: ks, x :: xs, as, ys, h, h', hn => by
    have hn' := List.nodup_append.mp hn
    have ka : k ∉ as := fun z => hn'.2.2 k z k List.mem_cons_self rfl
    have step : putK (as.zip ys) k x = (as ++ [k]).zip (ys ++ [x]) := by
      rw [putK_zip h']
      simp [putKs, putVs, ka]
    have ih := merge_nodup (ks := ks) (xs := xs) (as := as ++ [k]) (ys := ys ++ [x]) (by simpa using h) (by simp [h']) (by simpa using hn)
    unfold mergeK at ih ⊢
    rw [List.zip_cons_cons, List.foldl_cons, step, ih]
    simp
def eDisp (m : M (List (D × D))) : M D := bindM m fun ds => fun ρ => match keysOf (ds.map (·.1)) with
  | some ks => if ks.Nodup then .ok (.dic ks (ds.map (·.2))) ρ else .bad
  | none => .bad
theorem disp_core {keys : List (Option Expr)} {values : List Expr} {ks : List (Option Nat)} {m : M (List (D × D))} {trs : List (TE × TE)} {n : Nat} (h : SPs T G pos keys values ks G' m trs) (hk : keys.length = ks.length) (h15 : keys.length ≤ 15)
    (fin : ∀ {F H : Hp} {ds : List D} {xs : List V} {fp : List Addr}, XV T.C F H ks ds xs fp → OwnL (Own T.C F H n) ds xs fp) (σ : Sl) (H : Hp) (Q : VK) : tG T G G' (rF T.C n) (eDisp m) σ H Q → tDisp trs σ H Q := fun ⟨F, ρ, fps, ex, r0, m0⟩ => by
  intro p hp
  have r1 := r0.new (o := .dK []) hp (fun _ e => by cases e)
  have m1 := RemU.step m0 (Ext.new (F := F) (U := fps.flatten) (o := .dK []) hp)
  refine h.2 σ _ _ ?_
  refine seqU r1 m1 (fun a ha => List.mem_cons_of_mem _ ha) fun dds vvs F2 H2 ρ2 fps2 fp2 e2 r2 z2 m2 => ?_
  have n1 := List.nodup_append.mp r1.nd
  have pU : p ∉ fps.flatten := fun z => n1.2.2 p List.mem_cons_self p z rfl
  have hp2 : H2 p = some (.dK []) := e2.e2 p _ upd_same pU
  cases q : keysOf (dds.map (·.1)) with
  | none => simp only [q] at m2; exact m2.elim
  | some kk =>
    simp only [q] at m2
    by_cases nd : kk.Nodup
    · rw [if_pos nd] at m2
      have ek := keysOf_rep z2.1 q
      have l1 := z2.2.lens
      have lk : kk.length = vvs.length := by
        have := congrArg List.length ek
        simpa using this.symm
      have ev : vvs = (kk.zip (vvs.map (·.2))).map fun kv => (kV kv.1, kv.2) := by
        clear m2 z2 q l1 nd
        induction vvs generalizing kk with
        | nil => cases kk <;> simp_all
        | cons v vvs ih =>
          cases kk with
          | nil => simp at lk
          | cons k kk =>
            simp only [List.map_cons, List.cons.injEq] at ek
            simp only [List.map_cons, List.zip_cons_cons]
            rw [← ih kk ek.2 (by simpa using lk), ← ek.1]
      have mm : mergeK [] (kk.zip (vvs.map (·.2))) = kk.zip (vvs.map (·.2)) := by
        have := merge_nodup (ks := kk) (xs := vvs.map (·.2)) (as := []) (ys := []) (by simp [lk]) rfl (by simpa using nd)
        simpa using this
      refine ⟨hp2, kk.zip (vvs.map (·.2)), ev, ?_, ?_⟩
      · simp; have := l1.1; simp at this; omega
      · rw [mm]
        have pex : p ∈ fp2 ++ (p :: ex) := List.mem_append_right _ List.mem_cons_self
        have r3 := r2.exUpd (p := p) (o := .dK (kk.zip (vvs.map (·.2)))) pex (fun _ e => by cases e)
        have nfp := List.nodup_append.mp r2.nd
        have nfp1 := List.nodup_append.mp nfp.1
        have pfp : p ∉ fp2 := fun z => nfp1.2.2 p z p List.mem_cons_self rfl
        have own := fin z2.2
        have own2 : OwnL (Own T.C F2 (upd H2 p (.dK (kk.zip (vvs.map (·.2))))) n) (dds.map (·.2)) (vvs.map (·.2)) fp2 := OwnL.imp own fun d x f hf z => Own.mono (Sub.refl _) _ d x f (fun a ha o e => by rw [upd_ne (fun e' => pfp (by rw [← e']; exact hf a ha))]; exact e) z
        refine m2 (.ref p) F2 _ fps2 (p :: fp2) ⟨Sub.refl _, fun a o ea na => ?_, fun _ _ e => .inl e, fun a ha => ?_⟩ (r3.perm (fun a => ?_) ?_) ?_
        · rw [upd_ne (fun e' => na (by rw [e']; exact List.mem_append_right _ List.mem_cons_self))]; exact ea
        · rcases List.mem_append.mp ha with z | z
          · rcases List.mem_cons.mp z with z | z
            · rw [z]; exact .inl (List.mem_append_right _ List.mem_cons_self)
            · exact .inl (List.mem_append_left _ (List.mem_append_left _ z))
          · exact .inl (List.mem_append_left _ (List.mem_append_right _ z))
        · simp only [List.mem_append, List.mem_cons]
          constructor
          · rintro ((z | z) | z)
            · exact .inr (.inl z)
            · exact .inl z
            · exact .inr (.inr z)
          · rintro (z | z | z)
            · exact .inl (.inr z)
            · exact .inl (.inl z)
            · exact .inr z
        · have n4 := List.nodup_cons.mp nfp1.2.1
          refine List.nodup_append.mpr ⟨List.nodup_cons.mpr ⟨pfp, nfp1.1⟩, n4.2, fun a ha b hb e => ?_⟩
          rcases List.mem_cons.mp ha with z | z
          · subst e; subst z; exact n4.1 hb
          · exact nfp1.2.2 a z b (List.mem_cons_of_mem _ hb) e
        · exact ⟨p, vvs.map (·.2), fp2, rfl, rfl, upd_same, own2, by simp; have := l1.2; simp at this; omega, by have := l1.2; have := l1.1; simp at *; rw [sizeLine_eq]; omega⟩
    · rw [if_neg nd] at m2; exact m2.elim
theorem sf_disp {keys : List (Option Expr)} {values : List Expr} {ks : List (Option Nat)} {m : M (List (D × D))} {trs : List (TE × TE)} (h : SPs T G pos keys values ks G' m trs) (hall : keys.all (·.isSome) = true := by rfl) (hl : keys.length = values.length := by rfl) (h0 : keys ≠ [] := by exact fun e => nomatch e) (h15 : keys.length ≤ 15 := by decide)
    (hk : keys.length = ks.length := by rfl) (a : ks.all (· == none) = true := by rfl) : SF T G (.Dict keys values pos) 0 G' (eDisp m) := PEimp (pe_disp h.1 hall hl h0 h15) (disp_core h hk h15 fun z => by
      obtain ⟨e, z2⟩ := z.frozen a
      subst e
      exact OwnL.of_rep z2)
theorem sf_dispN {n : Nat} {keys : List (Option Expr)} {values : List Expr} {ks : List (Option Nat)} {m : M (List (D × D))} {trs : List (TE × TE)} (h : SPs T G pos keys values ks G' m trs) (hall : keys.all (·.isSome) = true := by rfl) (hl : keys.length = values.length := by rfl) (h0 : keys ≠ [] := by exact fun e => nomatch e) (h15 : keys.length ≤ 15 := by decide)
    (hk : keys.length = ks.length := by rfl) (a : ks.all (· == some n) = true := by rfl) : SF T G (.Dict keys values pos) (n + 1) G' (eDisp m) := PEimp (pe_disp h.1 hall hl h0 h15) (disp_core h hk h15 fun z => z.owned a)
end
end DM
end
section
set_option autoImplicit false
set_option Elab.async false
set_option linter.all false
set_option maxRecDepth 100000
set_option maxHeartbeats 4000000
/-! DM21: what a name owns is taken out, changed, put back. -/
namespace DM
open PySem PySem.Spec PyProof.Rows L2

section
variable {C : Cl} {pin : List (Nat × V)} {G : List Md} {F F' H H' : Hp} {σ : Sl} {ρ : DEnv} {fps : List (List Addr)} {ex : List Addr}
theorem flat_take {fps : List (List Addr)} {i : Nat} {f : List Addr} (h : fps[i]? = some f) (a : Addr) : a ∈ fps.flatten ↔ a ∈ f ∨ a ∈ (fps.set i []).flatten := by
  constructor
  · intro ha
    obtain ⟨g, hg, hag⟩ := List.mem_flatten.mp ha
    obtain ⟨j, hj⟩ := List.getElem?_of_mem hg
    by_cases hji : j = i
    · subst hji; rw [h] at hj; cases hj; exact .inl hag
    · exact .inr (mem_flatten_get (i := j) (by rw [List.getElem?_set_ne (Ne.symm hji)]; exact hj) hag)
  · rintro (z | z)
    · exact mem_flatten_get h z
    · exact (flatten_set_sub z).elim (fun z => nomatch z) id
theorem take_nd {fps : List (List Addr)} {i : Nat} {f : List Addr} (h : fps[i]? = some f) (n : fps.flatten.Nodup) : (f ++ (fps.set i []).flatten).Nodup := by
  refine List.nodup_append.mpr ⟨part_nodup n h, nodup_set n List.nodup_nil fun j g _ hj x hx hg => (nomatch hx), fun a ha b hb e => ?_⟩
  subst e
  obtain ⟨g, hg, hag⟩ := List.mem_flatten.mp hb
  obtain ⟨j, hj⟩ := List.getElem?_of_mem hg
  by_cases hji : j = i
  · subst hji
    rw [List.getElem?_set_self (by exact (List.getElem?_eq_some_iff.mp h).1)] at hj
    cases hj; cases hag
  · rw [List.getElem?_set_ne (Ne.symm hji)] at hj
    exact apart_parts n hji hj h hag ha
theorem Rel.take (r : Rel C pin G F H σ ρ fps ex) {i : Nat} {f : List Addr} (h : fps[i]? = some f) : Rel C pin G F H σ (ρ.set i none) (fps.set i []) (f ++ ex) := by
  have n := List.nodup_append.mp r.nd
  have n2 := List.nodup_append.mp (take_nd h n.2.1)
  have eqv : ∀ a, a ∈ (f ++ ex) ++ (fps.set i []).flatten ↔ a ∈ ex ++ fps.flatten := fun a => by
    simp only [List.mem_append]
    rw [flat_take h a]
    constructor
    · rintro ((z | z) | z)
      · exact .inr (.inl z)
      · exact .inl z
      · exact .inr (.inr z)
    · rintro (z | z | z)
      · exact .inl (.inr z)
      · exact .inl (.inl z)
      · exact .inr z
  refine ⟨r.sub, r.tups, by simp [r.ls], by simp [r.lf], by simp [r.lg], List.nodup_append.mpr ⟨List.nodup_append.mpr ⟨n2.1, n.1, fun a ha b hb e => n.2.2 b hb a (mem_flatten_get h ha) e.symm⟩, n2.2.1, fun a ha b hb e => ?_⟩, fun a ha => r.out a ((eqv a).mp ha), fun a ha => r.live a ((eqv a).mp ha), fun j d e => ?_, r.pn⟩
  · rcases List.mem_append.mp ha with z | z
    · exact n2.2.2 a z b hb e
    · exact n.2.2 a z b ((flat_take h b).mpr (.inr hb)) e
  · by_cases hj : j = i
    · subst hj
      by_cases hl : j < ρ.length
      · rw [List.getElem?_set_self hl] at e; cases e
      · rw [List.getElem?_eq_none (by simpa using hl)] at e; cases e
    · rw [List.getElem?_set_ne (Ne.symm hj)] at e
      obtain ⟨v, fp, e1, e2, h'⟩ := r.slot j d e
      exact ⟨v, fp, e1, by rw [List.getElem?_set_ne (Ne.symm hj)]; exact e2, h'.less fun a ha _ => (eqv a).mp ha⟩
theorem Rel.putBack {f : List Addr} (r : Rel C pin G F H σ ρ fps (f ++ ex)) {i : Nat} {d : D} {v : V} (hi : i < ρ.length) (hv : σ[i]? = some (some v)) (h : ∀ U, SlotR C F H U (G.getD i .fz) d v f) :
    Rel C pin G F H σ (ρ.set i (some d)) (fps.set i f) ex := by
  have n1 := List.nodup_append.mp r.nd
  have n2 := List.nodup_append.mp n1.1
  have sub : ∀ a ∈ ex ++ (fps.set i f).flatten, a ∈ f ++ ex ++ fps.flatten := fun a ha => by
    rcases List.mem_append.mp ha with z | z
    · exact List.mem_append_left _ (List.mem_append_right _ z)
    · rcases flatten_set_sub z with z | z
      · exact List.mem_append_left _ (List.mem_append_left _ z)
      · exact List.mem_append_right _ z
  refine ⟨r.sub, r.tups, by simp [r.ls], by simp [r.lf], by simp [r.lg], List.nodup_append.mpr ⟨n2.2.1, nodup_set n1.2.1 n2.1 fun j g _ hj x hx hg => n1.2.2 x (List.mem_append_left _ hx) x (mem_flatten_get hj hg) rfl, fun a ha b hb e => ?_⟩, fun a ha => r.out a (sub a ha), fun a ha => r.live a (sub a ha), fun j d' e => ?_, r.pn⟩
  · subst e
    rcases flatten_set_sub hb with z | z
    · exact n2.2.2 a z a ha rfl
    · exact n1.2.2 a (List.mem_append_right _ ha) a z rfl
  · by_cases hj : j = i
    · subst hj
      rw [List.getElem?_set_self hi] at e
      cases e
      exact ⟨v, f, hv, by rw [List.getElem?_set_self (by rw [r.lf]; exact hi)], h _⟩
    · rw [List.getElem?_set_ne (Ne.symm hj)] at e
      obtain ⟨v', fp', e1, e2, h'⟩ := r.slot j d' e
      exact ⟨v', fp', e1, by rw [List.getElem?_set_ne (Ne.symm hj)]; exact e2, h'.less fun a ha _ => sub a ha⟩
end
/-! ### members that are owned -/
section
variable {C : Cl} {F H : Hp} {P : D → V → List Addr → Prop} {κ : Type} [DecidableEq κ]
theorem own_put0 {k : κ} {d : D} {x : V} (hx : P d x []) : ∀ {ks : List κ} {ds : List D} {xs : List V} {g : List Addr}, OwnL P ds xs g → ∃ g', g'.Sublist g ∧ OwnL P ((ks.zip ds).map fun p => if p.1 = k then d else p.2) ((ks.zip xs).map fun p => if p.1 = k then x else p.2) g'
  | [], ds, xs, g, _ => ⟨[], List.nil_sublist g, by simp; exact ⟨rfl, rfl⟩⟩
  | _ :: _, [], xs, g, h => by
    obtain ⟨e1, e2⟩ := h
    subst e1 e2
    exact ⟨[], List.nil_sublist _, by simp; exact ⟨rfl, rfl⟩⟩
  | k' :: ks, d' :: ds, xs, g, h => by
    obtain ⟨y, r, f, g2, e1, e2, h1, h2⟩ := h
    subst e1 e2
    obtain ⟨g', s, h3⟩ := own_put0 (k := k) hx (ks := ks) h2
    simp only [List.zip_cons_cons, List.map_cons]
    by_cases e : k' = k
    · simp only [e, if_true]
      exact ⟨g', s.trans (List.sublist_append_right f g2), x, _, [], g', rfl, rfl, hx, h3⟩
    · simp only [e, if_false]
      exact ⟨f ++ g', List.Sublist.append (List.Sublist.refl f) s, y, _, f, g', rfl, rfl, h1, h3⟩
theorem OwnL.append {ds es : List D} {xs ys : List V} {f g : List Addr} : OwnL P ds xs f → OwnL P es ys g → OwnL P (ds ++ es) (xs ++ ys) (f ++ g) := by
  induction ds generalizing xs f with
  | nil => intro h h2; obtain ⟨e1, e2⟩ := h; subst e1 e2; exact h2
  | cons d ds ih =>
    intro h h2
    obtain ⟨x, r, f1, g1, e1, e2, h3, h4⟩ := h
    subst e1 e2
    exact ⟨x, r ++ ys, f1, g1 ++ g, rfl, by rw [List.append_assoc], h3, ih h4 h2⟩
theorem own_put {k : κ} {d : D} {x : V} (hx : P d x []) {ks : List κ} {ds : List D} {xs : List V} {g : List Addr} (h : OwnL P ds xs g) : ∃ g', g'.Sublist g ∧ OwnL P (putVs ks ds k d) (putVs ks xs k x) g' := by
  unfold putVs
  by_cases e : k ∈ ks
  · simp only [e, if_true]; exact own_put0 hx h
  · simp only [e, if_false]
    refine ⟨g, List.Sublist.refl g, ?_⟩
    have := OwnL.append h (show OwnL P [d] [x] [] from ⟨x, [], [], [], rfl, rfl, hx, rfl, rfl⟩)
    rwa [List.append_nil] at this
end
/-- d[k] = v: v frozen where the members are, else plain -/
def sDput (i n : Nat) (mv mk : M D) : M Fl := bindM mv fun v => fun ρ => match (ρ[i]?).join with
  | none => .bad
  | some _ => bindM mk (fun k ρ => match (ρ[i]?).join with
    | some d => if (n == 0 || scalD v) = true then (match dputD d k v with
      | some d' => .ok .nx (ρ.set i (some d'))
      | none => .bad) else .bad
    | none => .bad) ρ
theorem dput_of {C : Cl} {F H : Hp} {n : Nat} {d k v d' : D} {a : V} {y vv : V} {f : List Addr} (s : Sub F H) (h : Own C F H (n + 1) d a f) (hk : Rep C F k y) (hv : Own C F H n v vv []) (nd : f.Nodup) (e : dputD d k v = some d') :
    ∃ p H' f', a = .ref p ∧ p ∈ f ∧ DPut H p y vv H' ∧ (∃ o, H' = upd H p o ∧ ∀ xs, o ≠ .tup xs) ∧ f'.Sublist f ∧ Own C F H' (n + 1) d' a f' := by
  have keep : ∀ {p : Addr} {o : HO} {g g' : List Addr} {ds : List D} {xs : List V}, (p :: g).Nodup → g'.Sublist g → OwnL (Own C F H n) ds xs g' → OwnL (Own C F (upd H p o) n) ds xs g' := fun {p o g g' ds xs} nd s h =>
    OwnL.imp h fun d x f hf z => Own.mono (Sub.refl _) _ d x f (fun b hb u e => by rw [upd_ne (fun e' => (List.nodup_cons.mp nd).1 (by rw [← e']; exact s.subset (hf b hb)))]; exact e) z
  cases d <;> cases k <;> simp only [dputD, reduceCtorEq] at e
  case dic.int ks vs i =>
    split at e
    · rename_i hl
      cases e
      obtain ⟨p, xs, g, rfl, rfl, h1, h2, h3, h4⟩ := h
      unfold Rep at hk
      subst hk
      obtain ⟨g', sg, h5⟩ := own_put (k := (Sum.inl i : Key)) (ks := ks) hv h2
      have lx : ks.length = xs.length := by rw [h3, OwnL.length h2]
      refine ⟨p, _, p :: g', rfl, List.mem_cons_self, .inl ⟨_, .inl i, h1, rfl, by simp [lx, ← OwnL.length h2]; omega, rfl⟩, ⟨_, rfl, fun _ e => by cases e⟩, List.Sublist.cons₂ p sg, ?_⟩
      exact ⟨p, _, g', rfl, rfl, by rw [upd_same, putK_zip lx], keep nd sg h5, putVs_len h3, by have := putVs_le (k := (Sum.inl i : Key)) (x := v) h3; omega⟩
    · cases e
  case dic.str ks vs i =>
    split at e
    · rename_i hl
      cases e
      obtain ⟨p, xs, g, rfl, rfl, h1, h2, h3, h4⟩ := h
      unfold Rep at hk
      obtain ⟨rfl, _⟩ := hk
      obtain ⟨g', sg, h5⟩ := own_put (k := (Sum.inr i : Key)) (ks := ks) hv h2
      have lx : ks.length = xs.length := by rw [h3, OwnL.length h2]
      refine ⟨p, _, p :: g', rfl, List.mem_cons_self, .inl ⟨_, .inr i, h1, rfl, by simp [lx, ← OwnL.length h2]; omega, rfl⟩, ⟨_, rfl, fun _ e => by cases e⟩, List.Sublist.cons₂ p sg, ?_⟩
      exact ⟨p, _, g', rfl, rfl, by rw [upd_same, putK_zip lx], keep nd sg h5, putVs_len h3, by have := putVs_le (k := (Sum.inr i : Key)) (x := v) h3; omega⟩
    · cases e
  case dct.tup ks vs ds =>
    split at e
    · rename_i hl
      cases q : keysOf ds with
      | none => rw [q] at e; cases e
      | some kk =>
        rw [q] at e
        cases e
        obtain ⟨p, xs, g, rfl, rfl, h1, h2, h3, h4⟩ := h
        unfold Rep at hk
        obtain ⟨b, ys, rfl, hb, hr, _⟩ := hk
        have ek := keysOf_rep hr q
        subst ek
        obtain ⟨g', sg, h5⟩ := own_put (k := kk) (ks := ks) hv h2
        have lx : ks.length = xs.length := by rw [h3, OwnL.length h2]
        refine ⟨p, _, p :: g', rfl, List.mem_cons_self, .inr ⟨_, kk, b, h1, rfl, s _ _ hb, by simp [lx, ← OwnL.length h2]; omega, rfl⟩, ⟨_, rfl, fun _ e => by cases e⟩, List.Sublist.cons₂ p sg, ?_⟩
        exact ⟨p, _, g', rfl, rfl, by rw [upd_same, putK_zip lx], keep nd sg h5, putVs_len h3, by have := putVs_le (k := kk) (x := v) h3; omega⟩
    · cases e
section
variable {T : Ct} {S : Gs} {G G1 G2 G3 G' : List Md} {pos : Pos} {F F1 F' H H1 H' : Hp} {σ : Sl} {ρ : DEnv} {fps : List (List Addr)} {ex : List Addr} {C : Cl} {pin : List (Nat × V)}
/-- one object of what the name owns is changed in place -/
theorem Rel.chg {i n : Nat} {f f' : List Addr} {p : Addr} {o : HO} {d' : D} {v : V} (r : Rel C pin G F H σ ρ fps ex) (hi : fps[i]? = some f) (hm : G.getD i .fz = .ow n) (hv : σ[i]? = some (some v)) (hp : p ∈ f) (nt : ∀ xs, o ≠ .tup xs) (sf : f'.Sublist f) (own : Own C F (upd H p o) (n + 1) d' v f') :
    Rel C pin G F (upd H p o) σ (ρ.set i (some d')) (fps.set i f') ex ∧ Ext F H fps.flatten F (upd H p o) (fps.set i f').flatten := by
  have r1 := (r.take hi).exUpd (p := p) (o := o) (List.mem_append_left _ hp) nt
  have n1 := (List.nodup_append.mp r1.nd).1
  have n2 := List.nodup_append.mp n1
  have r2 : Rel C pin G F (upd H p o) σ (ρ.set i none) (fps.set i []) (f' ++ ex) := r1.less (fun a ha => (List.mem_append.mp ha).elim (fun z => List.mem_append_left _ (sf.subset z)) fun z => List.mem_append_right _ z) (List.nodup_append.mpr ⟨List.Sublist.nodup sf n2.1, n2.2.1, fun a ha b hb e => n2.2.2 a (sf.subset ha) b hb e⟩)
  have il : i < ρ.length := by rw [← r.lf]; exact (List.getElem?_eq_some_iff.mp hi).1
  have r3 := r2.putBack (i := i) (d := d') (v := v) (by simpa using il) hv (fun U => by rw [hm]; exact own)
  rw [List.set_set, List.set_set] at r3
  refine ⟨r3, Sub.refl _, fun a u e na => ?_, fun _ _ e => .inl e, fun a ha => ?_⟩
  · rw [upd_ne (fun e' => na (by rw [e']; exact mem_flatten_get hi hp))]; exact e
  · rcases flatten_set_sub ha with z | z
    · exact .inl (mem_flatten_get hi (sf.subset z))
    · exact .inl z
end
end DM
end
section
set_option autoImplicit false
set_option Elab.async false
set_option linter.all false
set_option maxRecDepth 100000
set_option maxHeartbeats 4000000
/-! DM22: d[k] = v, self.f = v, self.f[k1][k2] = v. -/
namespace DM
open PySem PySem.Spec PyProof.Rows L2

theorem own_of {C : Cl} {F H : Hp} {n : Nat} {d : D} {v : V} (h : Rep C F d v) (k : (n == 0 || scalD d) = true) : Own C F H n d v [] := by
  cases n with
  | zero => exact ⟨rfl, h⟩
  | succ n =>
    have k' : scalD d = true := by simpa using k
    exact own_scal h k' n
/-! ### an attribute is set -/
def putNs (f : Str) : List Str → List Str
  | [] => [f]
  | g :: r => if g = f then g :: r else g :: putNs f r
def putFs {α : Type} (f : Str) (d : α) : List Str → List α → List α
  | g :: r, x :: xs => if g = f then d :: xs else x :: putFs f d r xs
  | _, _ => [d]
theorem putF_zip {f : Str} {y : V} : ∀ {ns : List Str} {xs : List V}, ns.length = xs.length → putF f y (ns.zip xs) = (putNs f ns).zip (putFs f y ns xs)
  | [], [], _ => rfl
  | [], _ :: _, h => by cases h
  | _ :: _, [], h => by cases h
  | g :: r, x :: xs, h => by
    have ih := putF_zip (f := f) (y := y) (ns := r) (xs := xs) (by simpa using h)
    simp only [List.zip_cons_cons, putF, putNs, putFs]
    by_cases e : g = f
    · simp [e]
    · simp [e, ih]
theorem putNs_len {f : Str} : ∀ {ns : List Str} {α : Type} {d : α} {xs : List α}, ns.length = xs.length → (putNs f ns).length = (putFs f d ns xs).length
  | [], _, _, [], _ => rfl
  | [], _, _, _ :: _, h => by cases h
  | _ :: _, _, _, [], h => by cases h
  | g :: r, _, d, x :: xs, h => by
    simp only [putNs, putFs]
    by_cases e : g = f
    · simp [e]; simpa using h
    · simp [e, putNs_len (f := f) (ns := r) (d := d) (xs := xs) (by simpa using h)]
theorem own_fld {C : Cl} {P : D → V → List Addr → Prop} {f : Str} {d : D} {y : V} {fv : List Addr} (hy : P d y fv) : ∀ {ns : List Str} {ds : List D} {xs : List V} {g : List Addr}, ns.length = ds.length → OwnL P ds xs g → (g ++ fv).Nodup →
    ∃ g', (∀ a ∈ g', a ∈ g ∨ a ∈ fv) ∧ g'.Nodup ∧ OwnL P (putFs f d ns ds) (putFs f y ns xs) g'
  | [], [], xs, g, _, h, nd => by
    obtain ⟨e1, e2⟩ := h
    subst e1 e2
    exact ⟨fv, fun a ha => .inr ha, (List.nodup_append.mp nd).2.1, y, [], fv, [], rfl, by simp, hy, rfl, rfl⟩
  | [], _ :: _, _, _, h, _, _ => by cases h
  | _ :: _, [], _, _, h, _, _ => by cases h
  | n :: ns, d' :: ds, xs, g, hl, h, nd => by
    obtain ⟨x, r, f1, g2, e1, e2, h1, h2⟩ := h
    subst e1 e2
    have n0 := List.nodup_append.mp nd
    have n1 := List.nodup_append.mp n0.1
    simp only [putFs]
    by_cases e : n = f
    · simp only [e, if_true]
      refine ⟨fv ++ g2, fun a ha => (List.mem_append.mp ha).elim .inr fun z => .inl (List.mem_append_right _ z), List.nodup_append.mpr ⟨n0.2.1, n1.2.1, fun a ha b hb e => n0.2.2 b (List.mem_append_right _ hb) a ha e.symm⟩, y, r, fv, g2, rfl, rfl, hy, h2⟩
    · simp only [e, if_false]
      obtain ⟨g', s, ng, h3⟩ := own_fld (C := C) hy (ns := ns) (ds := ds) (by simpa using hl) h2 (List.nodup_append.mpr ⟨n1.2.1, n0.2.1, fun a ha b hb => n0.2.2 a (List.mem_append_right _ ha) b hb⟩)
      refine ⟨f1 ++ g', fun a ha => ?_, List.nodup_append.mpr ⟨n1.1, ng, fun a ha b hb e => ?_⟩, x, _, f1, g', rfl, rfl, h1, h3⟩
      · rcases List.mem_append.mp ha with z | z
        · exact .inl (List.mem_append_left _ z)
        · exact (s a z).imp_left fun z => List.mem_append_right _ z
      · subst e
        rcases s a hb with z | z
        · exact n1.2.2 a ha a z rfl
        · exact n0.2.2 a (List.mem_append_left _ ha) a z rfl
def kd : Nat → Option Nat
  | 0 => none
  | n + 1 => some n
theorem retR_kd {C : Cl} {F H : Hp} {n : Nat} {d : D} {v : V} {f : List Addr} (h : RetR C (kd n) F H d v f) : Own C F H n d v f := by
  cases n with
  | zero => exact h
  | succ n => exact h
def fldPut (c : String) (f : Str) (d v : D) : Option D := match d with
  | .obj c' ns vs => if c' = c ∧ ns.length < 1000 then some (.obj c' (putNs f ns) (putFs f v ns vs)) else none
  | _ => none
def sFldPut (i : Nat) (c : String) (f : Str) (mv : M D) : M Fl := bindM mv fun v => fun ρ => match ((ρ[i]?).join).bind fun d => fldPut c f d v with
  | some d' => .ok .nx (ρ.set i (some d'))
  | none => .bad
section
variable {T : Ct} {S : Gs} {G G1 G2 G3 G' : List Md} {pos : Pos} {F F1 F' H H1 H' : Hp} {σ : Sl} {ρ : DEnv} {fps : List (List Addr)} {ex : List Addr} {C : Cl} {pin : List (Nat × V)}
theorem ss_dput {i n : Nat} {x : Str} {k value : Expr} {mv mk : M D} {xp tp : Pos} (ok : T.Ok) (hN : T.X.N[i]? = some x) (hv : Vis T.X.env.scope x) (hval : SV T G value G1 mv) (hk : SV T G1 k G2 mk) (hm1 : G1.getD i .fz = .ow n) (hm2 : G2.getD i .fz = .ow n)
    (hs : swapsWith value (some (.Subscript (.Name x xp) k tp)) pos.line T.X.env = pure false := by rfl) (hd : (x == ("__debug__" : Str)) = false := by decide) (hcd : (x == ("__classdict__" : Str)) = false := by decide) :
    SS T S G (.Assign [.Subscript (.Name x xp) k tp] value pos) G2 (sDput i n mv mk) := PSimp (ps_dput (by have := ok.un; omega) (pe_var hN hv hd hcd) hk hval hs) fun E σ H ⟨F, ρ, fps, r, mm⟩ => by
  refine seqS r mm fun vd vv F1 H1 ρ1 fps1 fp1 e1 r1 z1 m1 => ?_
  obtain ⟨rfl, z1⟩ := z1
  rw [List.nil_append] at m1
  cases q1 : (ρ1[i]?).join with
  | none => simp only [q1] at m1; exact m1.elim
  | some d1 =>
    simp only [q1] at m1
    obtain ⟨a, f0, ea, _, _⟩ := r1.slot i d1 (join_some q1)
    refine ⟨a, ea, ?_⟩
    refine seqS r1 m1 fun kd ky F2 H2 ρ2 fps2 fp2 e2 r2 z2 m2 => ?_
    obtain ⟨rfl, z2⟩ := z2
    rw [List.nil_append] at m2
    cases q2 : (ρ2[i]?).join with
    | none => simp only [q2] at m2; exact m2.elim
    | some d2 =>
      simp only [q2] at m2
      by_cases hsc : (n == 0 || scalD vd) = true
      · rw [if_pos hsc] at m2
        cases q3 : dputD d2 kd vd with
        | none => simp only [q3] at m2; exact m2.elim
        | some d3 =>
          simp only [q3] at m2
          obtain ⟨a', f, ea', ef, own⟩ := r2.slot i d2 (join_some q2)
          rw [ea] at ea'; cases ea'
          rw [hm2] at own
          have nd : f.Nodup := part_nodup (List.nodup_append.mp r2.nd).2.1 ef
          obtain ⟨p, H', f', rfl, hp, dp, ⟨o, rfl, nt⟩, sf, own'⟩ := dput_of r2.sub own z2 (own_of (Rep.mono e2.e1 vd vv z1) hsc) nd q3
          obtain ⟨r3, x3⟩ := r2.chg ef hm2 ea hp nt sf own'
          exact ⟨p, _, rfl, dp, m2 σ F2 _ _ x3 r3⟩
      · rw [if_neg hsc] at m2; exact m2.elim
theorem ss_fldset {i n : Nat} {x f : Str} {c : String} {fs : List Str} {value : Expr} {mv : M D} {xp tp : Pos} (ok : T.Ok) (cs : ClS T.X.K T.C c fs) (hf : f ∈ fs) (hN : T.X.N[i]? = some x) (hv : Vis T.X.env.scope x) (hval : PE T.X value (tG T G G1 (rrOf T.C (kd n)) mv)) (hm1 : G1.getD i .fz = .ow n)
    (hs : swapsWith value (some (.Attribute (.Name x xp) f tp)) pos.line T.X.env = pure false := by rfl) (hd : (x == ("__debug__" : Str)) = false := by decide) (hcd : (x == ("__classdict__" : Str)) = false := by decide) :
    SS T S G (.Assign [.Attribute (.Name x xp) f tp] value pos) G1 (sFldPut i c f mv) := PSimp (ps_fld (pe_var hN hv hd hcd) hval hs) fun E σ H ⟨F, ρ, fps, r, mm⟩ => by
  obtain ⟨A, hA, hc, hn⟩ := cs.ex
  refine seqS r mm fun vd vv F1 H1 ρ1 fps1 fp1 e1 r1 z1 m1 => ?_
  cases q1 : (ρ1[i]?).join with
  | none => simp only [q1, Option.bind_none] at m1; exact m1.elim
  | some d1 =>
    simp only [q1, Option.bind_some] at m1
    cases d1 <;> simp only [fldPut] at m1 <;> first | exact m1.elim | skip
    case obj c' ns vs =>
      by_cases hc' : c' = c ∧ ns.length < 1000
      · rw [if_pos hc'] at m1
        obtain ⟨rfl, hl⟩ := hc'
        simp only at m1
        obtain ⟨a, g0, ea, ef, own⟩ := r1.slot i _ (join_some q1)
        rw [hm1] at own
        obtain ⟨p, A', dx, xs, g, rfl, rfl, h0, h1, h2, h3⟩ := own
        rw [hA] at h0; cases h0
        have z := retR_kd z1
        have nr := List.nodup_append.mp r1.nd
        have nf := part_nodup nr.2.1 ef
        have nf' := List.nodup_cons.mp nf
        have pm : p ∈ fps1.flatten := mem_flatten_get ef List.mem_cons_self
        have apv : ∀ b ∈ fp1, b ∉ fps1.flatten := fun b hb hz => nr.2.2 b hb b hz rfl
        have pv : p ∉ fp1 := fun z => apv p z pm
        have lx : ns.length = xs.length := by rw [h3, OwnL.length h2]
        obtain ⟨g', sg, ng, h5⟩ := own_fld (C := T.C) (f := f) z h3 h2 (List.nodup_append.mpr ⟨nf'.2, nr.1, fun b hb b' hb' e => apv b' hb' (by rw [← e]; exact mem_flatten_get ef (List.mem_cons_of_mem _ hb))⟩)
        have pg : p ∉ g' := fun z => (sg p z).elim nf'.1 pv
        have own' : Own T.C F1 (upd H1 p (.ins A dx (putF f vv (ns.zip xs)))) (n + 1) (.obj c' (putNs f ns) (putFs f vd ns vs)) (.ref p) (p :: g') :=
          ⟨p, A, dx, _, g', rfl, rfl, hA, by rw [upd_same, putF_zip lx], OwnL.imp h5 fun d x f hf z => Own.mono (Sub.refl _) _ d x f (fun b hb u e => by rw [upd_ne (fun e' => pg (by rw [← e']; exact hf b hb))]; exact e) z, putNs_len h3⟩
        refine ⟨.ref p, ea, p, A, dx, _, rfl, h1, hc, hn f hf, by simp [lx] at *; omega, ?_⟩
        have r2 := (r1.take ef).exUpd (p := p) (o := .ins A dx (putF f vv (ns.zip xs))) (List.mem_append_left _ List.mem_cons_self) (fun _ e => by cases e)
        have il : i < ρ1.length := by rw [← r1.lf]; exact (List.getElem?_eq_some_iff.mp ef).1
        have r3 : Rel T.C T.pin G1 F1 (upd H1 p (.ins A dx (putF f vv (ns.zip xs)))) σ (ρ1.set i none) (fps1.set i []) ((p :: g') ++ []) := r2.less (fun b hb => by
          rw [List.append_nil] at hb
          rcases List.mem_cons.mp hb with z | z
          · rw [z]; exact List.mem_append_left _ List.mem_cons_self
          · rcases sg b z with z | z
            · exact List.mem_append_left _ (List.mem_cons_of_mem _ z)
            · exact List.mem_append_right _ (by simpa using z)) (by rw [List.append_nil]; exact List.nodup_cons.mpr ⟨pg, ng⟩)
        have r4 := r3.putBack (i := i) (d := .obj c' (putNs f ns) (putFs f vd ns vs)) (v := .ref p) (by simpa using il) ea (fun U => by rw [hm1]; exact own')
        rw [List.set_set, List.set_set] at r4
        refine m1 σ F1 _ _ ⟨Sub.refl _, fun b u eb nb => ?_, fun _ _ e => .inl e, fun b hb => ?_⟩ r4
        · rw [upd_ne (fun e' => nb (by rw [e']; exact List.mem_append_right _ pm))]; exact eb
        · rcases flatten_set_sub hb with z | z
          · rcases List.mem_cons.mp z with z | z
            · rw [z]; exact .inl (List.mem_append_right _ pm)
            · rcases sg b z with z | z
              · exact .inl (List.mem_append_right _ (mem_flatten_get ef (List.mem_cons_of_mem _ z)))
              · exact .inl (List.mem_append_left _ z)
          · exact .inl (List.mem_append_right _ z)
      · rw [if_neg hc'] at m1; exact m1.elim
end
end DM
end
section
set_option autoImplicit false
set_option Elab.async false
set_option linter.all false
set_option maxRecDepth 100000
set_option maxHeartbeats 4000000
/-! DM23: paths into what a name owns. -/
namespace DM
open PySem PySem.Spec PyProof.Rows L2

/-- where a key stands -/
def posK {κ : Type} [DecidableEq κ] : List κ → κ → Option Nat
  | [], _ => none
  | k' :: ks, k => if k' = k then some 0 else (posK ks k).map (· + 1)
theorem posK_valV {k : Key} : ∀ {ks : List Key} {xs : List V} {j : Nat} {x : V}, posK ks k = some j → xs[j]? = some x → valV (ks.zip xs) k = some x
  | [], _, _, _, h, _ => by cases h
  | _ :: _, [], _, _, _, h => by simp at h
  | k' :: ks, y :: xs, j, x, h, hx => by
    unfold posK at h
    by_cases e : k' = k
    · rw [if_pos e] at h; cases h
      rw [List.zip_cons_cons, valV_pos e]
      simpa using hx
    · rw [if_neg e] at h
      cases q : posK ks k with
      | none => rw [q] at h; cases h
      | some i =>
        rw [q] at h; cases h
        rw [List.zip_cons_cons, valV_neg (by exact e)]
        exact posK_valV q (by simpa using hx)
theorem posK_lookup {k : Str} : ∀ {ks : List Str} {xs : List V} {j : Nat} {x : V}, posK ks k = some j → xs[j]? = some x → (ks.zip xs).lookup k = some x
  | [], _, _, _, h, _ => by cases h
  | _ :: _, [], _, _, _, h => by simp at h
  | k' :: ks, y :: xs, j, x, h, hx => by
    unfold posK at h
    simp only [List.zip_cons_cons, List.lookup_cons]
    by_cases e : k' = k
    · rw [if_pos e] at h; cases h
      have : (k == k') = true := by rw [e]; exact beq_self_eq_true k
      rw [this]
      simpa using hx
    · rw [if_neg e] at h
      have : (k == k') = false := beq_eq_false_iff_ne.mpr fun z => e z.symm
      rw [this]
      cases q : posK ks k with
      | none => rw [q] at h; cases h
      | some i =>
        rw [q] at h; cases h
        exact posK_lookup q (by simpa using hx)
theorem OwnL.mod {P P' : D → V → List Addr → Prop} : ∀ {ds : List D} {xs : List V} {g : List Addr} {j : Nat} {d : D}, OwnL P ds xs g → g.Nodup → ds[j]? = some d →
    ∃ x f, xs[j]? = some x ∧ P d x f ∧ f.Sublist g ∧ ∀ d' f', f'.Sublist f → P' d' x f' → (∀ d x f2, (∀ a ∈ f2, a ∈ g ∧ a ∉ f) → P d x f2 → P' d x f2) → ∃ g', g'.Sublist g ∧ OwnL P' (ds.set j d') xs g'
  | [], xs, g, j, d, _, _, e => by simp at e
  | d0 :: ds, xs, g, 0, d, h, nd, e => by
    obtain ⟨x, r, f, g2, e1, e2, h1, h2⟩ := h
    subst e1 e2
    cases e
    have n := List.nodup_append.mp nd
    refine ⟨x, f, rfl, h1, List.sublist_append_left f g2, fun d' f' sf h' k => ⟨f' ++ g2, List.Sublist.append sf (List.Sublist.refl g2), x, r, f', g2, rfl, rfl, h', OwnL.imp h2 fun d x f2 hf z => k d x f2 (fun a ha => ⟨List.mem_append_right _ (hf a ha), fun z => n.2.2 a z a (hf a ha) rfl⟩) z⟩⟩
  | d0 :: ds, xs, g, j + 1, d, h, nd, e => by
    obtain ⟨x0, r, f0, g2, e1, e2, h1, h2⟩ := h
    subst e1 e2
    have n := List.nodup_append.mp nd
    obtain ⟨x, f, hx, hp, sf, kk⟩ := OwnL.mod (P' := P') h2 n.2.1 (by simpa using e)
    refine ⟨x, f, by simpa using hx, hp, sf.trans (List.sublist_append_right f0 g2), fun d' f' sf' h' k => ?_⟩
    obtain ⟨g', sg, h3⟩ := kk d' f' sf' h' fun d x f2 hf z => k d x f2 (fun a ha => ⟨List.mem_append_right _ (hf a ha).1, (hf a ha).2⟩) z
    exact ⟨f0 ++ g', List.Sublist.append (List.Sublist.refl f0) sg, x0, r, f0, g', rfl, rfl, k d0 x0 f0 (fun a ha => ⟨List.mem_append_left _ ha, fun z => n.2.2 a ha a (sf.subset z) rfl⟩) h1, h3⟩
/-! ### fresh things with plain members are owned as deep as one likes -/
def shal : D → Bool
  | .lst l => l.all scalD
  | .tup l => l.all scalD
  | .dic _ l => l.all scalD
  | .dct _ l => l.all scalD
  | d => scalD d
theorem ownL_scal {C : Cl} {F H : Hp} {n : Nat} : ∀ {ds : List D} {xs : List V} {g : List Addr}, OwnL (Own C F H 0) ds xs g → ds.all scalD = true → OwnL (Own C F H n) ds xs g
  | [], _, _, h, _ => h
  | d :: ds, xs, g, h, k => by
    obtain ⟨x, r, f, g2, e1, e2, h1, h2⟩ := h
    simp only [List.all_cons, Bool.and_eq_true] at k
    obtain ⟨e3, h1⟩ := h1
    subst e3
    exact ⟨x, r, [], g2, e1, e2, own_of h1 (by rw [k.1]; simp), ownL_scal h2 k.2⟩
theorem own_shal {C : Cl} {F H : Hp} {n : Nat} {d : D} {v : V} {f : List Addr} (h : Own C F H 1 d v f) (k : shal d = true) : Own C F H (n + 1) d v f := by
  cases d <;> simp only [shal, scalD, Bool.false_eq_true] at k <;> first | exact h | skip
  case lst l => obtain ⟨a, xs, g, e1, e2, h1, h2, h3⟩ := h; exact ⟨a, xs, g, e1, e2, h1, ownL_scal h2 k, h3⟩
  case tup l => obtain ⟨a, xs, e1, h1, h2, h3⟩ := h; exact ⟨a, xs, e1, h1, ownL_scal h2 k, h3⟩
  case dic ks l => obtain ⟨a, xs, g, e1, e2, h1, h2, h3⟩ := h; exact ⟨a, xs, g, e1, e2, h1, ownL_scal h2 k, h3⟩
  case dct ks l => obtain ⟨a, xs, g, e1, e2, h1, h2, h3⟩ := h; exact ⟨a, xs, g, e1, e2, h1, ownL_scal h2 k, h3⟩
def mShal (f : M D) : M D := bindM f fun d => fun ρ => if shal d = true then .ok d ρ else .bad
/-! ### what is read without a change -/
def SR (T : Ct) (G : List Md) (e : Expr) (f : DEnv → Option D) (te : TE) : Prop := PE T.X e te ∧ ∀ (σ : Sl) (H : Hp) (Q : VK) (F : Hp) (ρ : DEnv) (fps : List (List Addr)) (ex : List Addr) (d : D), Rel T.C T.pin G F H σ ρ fps ex → f ρ = some d → (∀ v, Rep T.C F d v → Q v H) → te σ H Q
def rdV (i : Nat) (ρ : DEnv) : Option D := (ρ[i]?).join
def rdC (d : D) (_ : DEnv) : Option D := some d
section
variable {T : Ct} {S : Gs} {G G1 G2 G3 G' : List Md} {pos : Pos} {F F1 F' H H1 H' : Hp} {σ : Sl} {ρ : DEnv} {fps : List (List Addr)} {ex : List Addr} {C : Cl} {pin : List (Nat × V)}
theorem sf_lift {e : Expr} {f : M D} {n : Nat} (h : SF T G e 0 G' f) : SF T G e n G' (mShal f) := PEimp h fun σ H Q ⟨F, ρ, fps, ex, r0, m0⟩ => by
  refine seqU r0 m0 (fun a ha => ha) fun d x F1 H1 ρ1 fps1 fp1 e1 r1 z1 m1 => ?_
  by_cases k : shal d = true
  · rw [if_pos k] at m1
    exact RemU.fin m1 (fun a ha => List.mem_append_left _ ha) r1 (own_shal z1 k)
  · rw [if_neg k] at m1; exact m1.elim
theorem sr_var {i : Nat} {x : Str} (hN : T.X.N[i]? = some x) (hv : Vis T.X.env.scope x) (hm : G.getD i .fz = .fz) (hd : (x == ("__debug__" : Str)) = false := by decide) (hcd : (x == ("__classdict__" : Str)) = false := by decide) : SR T G (.Name x pos) (rdV i) (tVar i) :=
  ⟨pe_var hN hv hd hcd, fun σ H Q F ρ fps ex d r e q => by
    obtain ⟨v, e1, z⟩ := r.fzv (join_some e) hm
    exact ⟨v, e1, q v z⟩⟩
theorem sr_str {z : Str} {j : Nat} (h1 : z.length ≤ sizeLine := by decide) (h2 : PyData.strOk z = true := by decide +kernel) : SR T G (.Constant (.str z) j pos) (rdC (.str z)) (tC (.str z)) :=
  ⟨pe_str, fun σ H Q F ρ fps ex d r e q => by cases e; exact q _ (rep_str h1 h2)⟩
/-- the dict that a name owns, looked into -/
def entD (d k : D) : Option (Nat × D) := match d, k with
  | .dic ks vs, .int i => (posK ks (.inl i)).bind fun j => (vs[j]?).map fun e => (j, e)
  | .dic ks vs, .str i => (posK ks (.inr i)).bind fun j => (vs[j]?).map fun e => (j, e)
  | _, _ => none
theorem entD_is {d k : D} {j : Nat} {e : D} {y : V} (h : entD d k = some (j, e)) (hk : Rep C F k y) : ∃ ks vs kk, d = .dic ks vs ∧ y = kV kk ∧ posK ks kk = some j ∧ vs[j]? = some e := by
  cases d <;> cases k <;> simp only [entD, reduceCtorEq] at h
  case dic.int ks vs i =>
    cases q : posK ks (.inl i) with
    | none => rw [q] at h; cases h
    | some j' =>
      rw [q, Option.bind_some] at h
      cases q2 : vs[j']? with
      | none => rw [q2] at h; cases h
      | some e' =>
        rw [q2] at h; cases h
        unfold Rep at hk; subst hk
        exact ⟨ks, vs, .inl i, rfl, rfl, q, q2⟩
  case dic.str ks vs i =>
    cases q : posK ks (.inr i) with
    | none => rw [q] at h; cases h
    | some j' =>
      rw [q, Option.bind_some] at h
      cases q2 : vs[j']? with
      | none => rw [q2] at h; cases h
      | some e' =>
        rw [q2] at h; cases h
        unfold Rep at hk
        obtain ⟨rfl, _⟩ := hk
        exact ⟨ks, vs, .inr i, rfl, rfl, q, q2⟩
theorem ownL_at {P : D → V → List Addr → Prop} : ∀ {ds : List D} {xs : List V} {g : List Addr} {j : Nat} {d : D}, OwnL P ds xs g → ds[j]? = some d → ∃ x f, xs[j]? = some x ∧ P d x f ∧ f.Sublist g
  | [], _, _, _, _, _, e => by simp at e
  | d0 :: ds, xs, g, 0, d, h, e => by
    obtain ⟨x, r, f, g2, e1, e2, h1, h2⟩ := h
    subst e1 e2; cases e
    exact ⟨x, f, rfl, h1, List.sublist_append_left f g2⟩
  | d0 :: ds, xs, g, j + 1, d, h, e => by
    obtain ⟨x, r, f, g2, e1, e2, h1, h2⟩ := h
    subst e1 e2
    obtain ⟨x', f', hx, hp, s⟩ := ownL_at h2 (by simpa using e)
    exact ⟨x', f', by simpa using hx, hp, s.trans (List.sublist_append_right f g2)⟩
/-- one member of an owned dict, by its key -/
theorem Rel.ent {i n : Nat} {d k e : D} {j : Nat} {y : V} (r : Rel C pin G F H σ ρ fps ex) (hd : (ρ[i]?).join = some d) (hm : G.getD i .fz = .ow n) (h : entD d k = some (j, e)) (hk : Rep C F k y) :
    ∃ p f ks vs kk xs x fx, d = .dic ks vs ∧ σ[i]? = some (some (.ref p)) ∧ fps[i]? = some (p :: f) ∧ y = kV kk ∧ H p = some (.dK (ks.zip xs)) ∧ OwnL (Own C F H n) vs xs f ∧ posK ks kk = some j ∧ vs[j]? = some e ∧ xs[j]? = some x ∧ Own C F H n e x fx ∧ fx.Sublist f ∧ valV (ks.zip xs) kk = some x ∧ ks.length = vs.length ∧ vs.length ≤ sizeLine := by
  obtain ⟨ks, vs, kk, rfl, rfl, h1, h2⟩ := entD_is h hk
  obtain ⟨v, fp, e1, e2, own⟩ := r.slot i _ (join_some hd)
  rw [hm] at own
  obtain ⟨p, xs, g, rfl, rfl, h3, h4, h5, h6⟩ := own
  obtain ⟨x, fx, h7, h8, h9⟩ := ownL_at h4 h2
  exact ⟨p, g, ks, vs, kk, xs, x, fx, rfl, e1, e2, rfl, h3, h4, h1, h2, h7, h8, h9, posK_valV h1 h7, h5, h6⟩
/-- d[k], a plain member -/
def mEntS (i : Nat) (fk : DEnv → Option D) : M D := fun ρ => match (ρ[i]?).join.bind fun d => (fk ρ).bind fun k => entD d k with
  | some je => if scalD je.2 = true then .ok je.2 ρ else .bad
  | none => .bad
theorem own_rep_scal {n : Nat} {d : D} {v : V} {f : List Addr} (h : Own C F H n d v f) (k : scalD d = true) : Rep C F d v := by
  cases n with
  | zero => exact h.2
  | succ n => cases d <;> simp only [scalD, Bool.false_eq_true] at k <;> exact h.2
theorem ent_get {i : Nat} {fk : DEnv → Option D} {je : Nat × D} (h : ((ρ[i]?).join.bind fun d => (fk ρ).bind fun k => entD d k) = some je) : ∃ d k, (ρ[i]?).join = some d ∧ fk ρ = some k ∧ entD d k = some je := by
  cases q : (ρ[i]?).join with
  | none => rw [q] at h; cases h
  | some d =>
    rw [q, Option.bind_some] at h
    cases q2 : fk ρ with
    | none => rw [q2] at h; cases h
    | some k => rw [q2, Option.bind_some] at h; exact ⟨d, k, rfl, rfl, h⟩
theorem sv_entS {i n : Nat} {x : Str} {k : Expr} {fk : DEnv → Option D} {tk : TE} {xp : Pos} (ok : T.Ok) (hN : T.X.N[i]? = some x) (hv : Vis T.X.env.scope x) (hk : SR T G k fk tk) (hm : G.getD i .fz = .ow n) (hs : NoSl k) (hd : (x == ("__debug__" : Str)) = false := by decide) (hcd : (x == ("__classdict__" : Str)) = false := by decide) :
    SV T G (.Subscript (.Name x xp) k pos) G (mEntS i fk) := PEimp (pe_dget (by have := ok.un; omega) (pe_var hN hv hd hcd) hk.1 hs) fun σ H Q ⟨F, ρ, fps, ex, r, m⟩ => by
  unfold mEntS at m
  cases q : ((ρ[i]?).join.bind fun d => (fk ρ).bind fun k => entD d k) with
  | none => simp only [q] at m; exact m.elim
  | some je =>
    simp only [q] at m
    obtain ⟨j, e⟩ := je
    by_cases hsc : scalD e = true
    · rw [if_pos hsc] at m
      obtain ⟨d, kd, q1, q2, q3⟩ := ent_get q
      obtain ⟨v0, f0, ev0, _⟩ := r.slot i d (join_some q1)
      refine ⟨v0, ev0, hk.2 σ H _ F ρ fps ex kd r q2 fun y hy => ?_⟩
      obtain ⟨p, f, ks, vs, kk, xs, x', fx, rfl, e1, e2, rfl, e3, e4, e5, e6, e7, e8, e9, e10, _⟩ := r.ent q1 hm q3 hy
      rw [e1] at ev0; cases ev0
      exact ⟨p, x', rfl, .inl ⟨_, kk, .inl e3, rfl, e10.symm⟩, Rem.fin (fp := []) m (Ext.refl _ _ _) r ⟨rfl, own_rep_scal e8 hsc⟩⟩
    · rw [if_neg hsc] at m; exact m.elim
end
end DM
end
section
set_option autoImplicit false
set_option Elab.async false
set_option linter.all false
set_option maxRecDepth 100000
set_option maxHeartbeats 4000000
/-! DM24: len(d[k]), d[k].pop(), self.f[k1][k2] = v. -/
namespace DM
open PySem PySem.Spec PyProof.Rows L2

def setEnt (j : Nat) (e : D) : D → D
  | .dic ks vs => .dic ks (vs.set j e)
  | d => d
def mEntLen (i : Nat) (fk : DEnv → Option D) : M D := fun ρ => match (ρ[i]?).join.bind fun d => (fk ρ).bind fun k => entD d k with
  | some je => (match lstD je.2 with
    | some l => .ok (.int l.length) ρ
    | none => .bad)
  | none => .bad
def mEntPop (i : Nat) (fk : DEnv → Option D) : M D := fun ρ => match (ρ[i]?).join.bind fun d => (fk ρ).bind fun k => entD d k with
  | some je => (match lstD je.2 with
    | some l => (match l[l.length - 1]? with
      | some d => .ok d (ρ.set i ((ρ[i]?).join.map (setEnt je.1 (.lst l.dropLast))))
      | none => .bad)
    | none => .bad)
  | none => .bad
def put2D (c : String) (f : Str) (d k1 k2 v : D) : Option D := match d with
  | .obj c' ns vs => if c' = c then (posK ns f).bind fun j => (vs[j]?).bind fun d1 => (entD d1 k1).bind fun e => (dputD e.2 k2 v).map fun d2 => .obj c' ns (vs.set j (setEnt e.1 d2 d1)) else none
  | _ => none
def sPut2 (i : Nat) (c : String) (f : Str) (mv : M D) (fk1 fk2 : DEnv → Option D) : M Fl := bindM mv fun v => fun ρ => match (ρ[i]?).join.bind fun d => (fk1 ρ).bind fun k1 => (fk2 ρ).bind fun k2 => put2D c f d k1 k2 v with
  | some d' => .ok .nx (ρ.set i (some d'))
  | none => .bad
theorem mapK_inj : ∀ {a b : List Key}, a.map kV = b.map kV → a = b
  | [], [], _ => rfl
  | [], _ :: _, h => by simp at h
  | _ :: _, [], h => by simp at h
  | x :: a, y :: b, h => by
    simp only [List.map_cons, List.cons.injEq] at h
    rw [kV_inj h.1, mapK_inj h.2]
section
variable {T : Ct} {S : Gs} {G G1 G2 G3 G' : List Md} {pos : Pos} {F F1 F' H H1 H' : Hp} {σ : Sl} {ρ : DEnv} {fps : List (List Addr)} {ex : List Addr} {C : Cl} {pin : List (Nat × V)}
theorem sv_entLen {i n : Nat} {x : Str} {k : Expr} {fk : DEnv → Option D} {tk : TE} {xp p sp : Pos} (ok : T.Ok) (hg : Gl T.X "len") (hml : T.X.mg "len" = none) (hN : T.X.N[i]? = some x) (hv : Vis T.X.env.scope x) (hk : SR T G k fk tk) (hm : G.getD i .fz = .ow (n + 1)) (hs : NoSl k) (hd : (x == ("__debug__" : Str)) = false := by decide) (hcd : (x == ("__classdict__" : Str)) = false := by decide)
    (he : starEach [.Subscript (.Name x xp) k sp] T.X.env = (false, eval (.Subscript (.Name x xp) k sp) T.X.env) :: starEach [] T.X.env := by rfl) (hpl : (backTo pos (starEach [] T.X.env)).any (·.1) = false := by rfl) :
    SV T G (.Call (.Name "len" p) [.Subscript (.Name x xp) k sp] [] pos) G (mEntLen i fk) := PEimp (pe_callB call_len hg hml PySem.boot_len (pa_cons (pe_dget (by have := ok.un; omega) (pe_var hN hv hd hcd) hk.1 hs) pa_nil he) (by decide) (by decide) he hpl) fun σ H Q ⟨F, ρ, fps, ex, r, m⟩ => by
  unfold mEntLen at m
  cases q : ((ρ[i]?).join.bind fun d => (fk ρ).bind fun k => entD d k) with
  | none => simp only [q] at m; exact m.elim
  | some je =>
    simp only [q] at m
    obtain ⟨j, e⟩ := je
    cases ql : lstD e with
    | none => simp only [ql] at m; exact m.elim
    | some l =>
      simp only [ql] at m
      have el := lstD_eq ql
      subst el
      obtain ⟨d, kd, q1, q2, q3⟩ := ent_get q
      obtain ⟨v0, f0, ev0, _⟩ := r.slot i d (join_some q1)
      refine ⟨v0, ev0, hk.2 σ H _ F ρ fps ex kd r q2 fun y hy => ?_⟩
      obtain ⟨p, f, ks, vs, kk, xs, x', fx, rfl, e1, e2, rfl, e3, e4, e5, e6, e7, e8, e9, e10, _⟩ := r.ent q1 hm q3 hy
      rw [e1] at ev0; cases ev0
      obtain ⟨a, ys, g, rfl, rfl, h1, h2, h3⟩ := e8
      exact ⟨p, .ref a, rfl, .inl ⟨_, kk, .inl e3, rfl, e10.symm⟩, .ref a, l.length, rfl, .inl ⟨ys, SqL.of h1, OwnL.length h2⟩, Rem.fin (fp := []) m (Ext.refl _ _ _) r ⟨rfl, rep_int⟩⟩
theorem own_keep {n : Nat} {d : D} {x : V} {f : List Addr} {p : Addr} {o : HO} (h : Own C F H n d x f) (hp : p ∉ f) : Own C F (upd H p o) n d x f := Own.mono (Sub.refl _) n d x f (fun a ha u e => by rw [upd_ne (fun z => hp (by rw [← z]; exact ha))]; exact e) h
/-- a member of an owned dict is changed -/
theorem own_ent {n : Nat} {ks : List Key} {vs : List D} {xs : List V} {a : Addr} {g : List Addr} {j : Nat} {d2 d2' : D} {p2 : Addr} {o : HO} (h1 : H a = some (.dK (ks.zip xs))) (h2 : OwnL (Own C F H (n + 1)) vs xs g) (h3 : ks.length = vs.length) (h4 : vs.length ≤ sizeLine) (nd : (a :: g).Nodup) (hj : vs[j]? = some d2)
    (up : ∀ x f, xs[j]? = some x → Own C F H (n + 1) d2 x f → f.Nodup → p2 ∈ f ∧ ∃ f', f'.Sublist f ∧ Own C F (upd H p2 o) (n + 1) d2' x f') :
    p2 ∈ g ∧ ∃ g', g'.Sublist g ∧ Own C F (upd H p2 o) (n + 2) (.dic ks (vs.set j d2')) (.ref a) (a :: g') := by
  have nd' := List.nodup_cons.mp nd
  obtain ⟨x, f, hx, hp, sf, kk⟩ := OwnL.mod (P' := Own C F (upd H p2 o) (n + 1)) h2 nd'.2 hj
  obtain ⟨m2, f', sf', own'⟩ := up x f hx hp (sf.nodup nd'.2)
  have pg : p2 ∈ g := sf.subset m2
  obtain ⟨g', sg, h5⟩ := kk d2' f' sf' own' fun d x f2 hf z => own_keep z fun hz => (hf p2 hz).2 m2
  refine ⟨pg, g', sg, a, xs, g', rfl, rfl, ?_, h5, by simp [h3], by simpa using h4⟩
  rw [upd_ne (fun z => nd'.1 (by rw [z]; exact pg))]; exact h1
theorem sv_entPop {i : Nat} {x : Str} {k : Expr} {fk : DEnv → Option D} {tk : TE} {xp sp apos cpos : Pos} (ok : T.Ok) (hN : T.X.N[i]? = some x) (hv : Vis T.X.env.scope x) (hk : SR T G k fk tk) (hm : G.getD i .fz = .ow 1) (hs : NoSl k) (hd : (x == ("__debug__" : Str)) = false := by decide) (hcd : (x == ("__classdict__" : Str)) = false := by decide)
    (hbase : attributeBase (.Subscript (.Name x xp) k sp) "pop" T.X.env (eval (.Subscript (.Name x xp) k sp) T.X.env) = eval (.Subscript (.Name x xp) k sp) T.X.env := by rfl) (hline : (apos.endLine == cpos.line) = true := by rfl) :
    SV T G (.Call (.Attribute (.Subscript (.Name x xp) k sp) "pop" apos) [] [] cpos) G (mEntPop i fk) := PEimp (pe_bm0 PySem.F.plainAttrs_list PySem.F.slot_list_pop PySem.F.type_list_pop mt_pop (pe_dget (by have := ok.un; omega) (pe_var hN hv hd hcd) hk.1 hs) hbase hline) fun σ H Q ⟨F, ρ, fps, ex, r, m⟩ => by
  unfold mEntPop at m
  cases q : ((ρ[i]?).join.bind fun d => (fk ρ).bind fun k => entD d k) with
  | none => simp only [q] at m; exact m.elim
  | some je =>
    simp only [q] at m
    obtain ⟨j, e⟩ := je
    cases ql : lstD e with
    | none => simp only [ql] at m; exact m.elim
    | some l =>
      simp only [ql] at m
      have el := lstD_eq ql
      subst el
      cases qy : l[l.length - 1]? with
      | none => simp only [qy] at m; exact m.elim
      | some dy =>
        simp only [qy] at m
        obtain ⟨d, kd, q1, q2, q3⟩ := ent_get q
        obtain ⟨v0, f0, ev0, _⟩ := r.slot i d (join_some q1)
        refine ⟨v0, ev0, hk.2 σ H _ F ρ fps ex kd r q2 fun y hy => ?_⟩
        obtain ⟨p, f, ks, vs, kk, xs, x', fx, rfl, e1, e2, rfl, e3, e4, e5, e6, e7, e8, e9, e10, e11, e12⟩ := r.ent q1 hm q3 hy
        rw [e1] at ev0; cases ev0
        obtain ⟨a, ys, g, rfl, rfl, h1, h2, h3⟩ := e8
        obtain ⟨h4, rfl⟩ := OwnL.to_rep h2
        obtain ⟨yv, hyv, hr⟩ := h4.get qy
        have nd := part_nodup (List.nodup_append.mp r.nd).2.1 e2
        obtain ⟨pg, g', sg, own⟩ := own_ent (p2 := a) (o := .lst ys.dropLast) (d2' := .lst l.dropLast) e3 e4 e11 e12 nd e6 fun x f hx own ndf => by
          rw [e7] at hx; cases hx
          obtain ⟨a', ys', g2, ea, rfl, h5, h6, h7⟩ := own
          cases ea
          obtain ⟨_, rfl⟩ := OwnL.to_rep h6
          exact ⟨List.mem_cons_self, [a], List.Sublist.refl _, a, ys.dropLast, [], rfl, rfl, upd_same, OwnL.of_rep h4.dropLast, by rw [List.length_dropLast]; omega⟩
        obtain ⟨r2, x2⟩ := r.chg e2 hm e1 (List.mem_cons_of_mem _ pg) (fun _ e => by cases e) (List.Sublist.cons₂ p sg) own
        refine ⟨p, .ref a, rfl, .inl ⟨_, kk, .inl e3, rfl, e10.symm⟩, .inl ⟨rfl, ys, SqL.of h1⟩, a, ys, yv, rfl, rfl, h1, by rw [← h4.length]; exact hyv, ?_⟩
        rw [q1] at m
        exact Rem.fin (fp := []) m x2 r2 ⟨rfl, hr⟩
theorem ss_put2 {i : Nat} {x f : Str} {c : String} {fs : List Str} {k1 k2 value : Expr} {mv : M D} {fk1 fk2 : DEnv → Option D} {tk1 tk2 : TE} {xp p1 p2 p3 : Pos} (ok : T.Ok) (cs : ClS T.X.K T.C c fs) (hf : f ∈ fs) (hN : T.X.N[i]? = some x) (hv : Vis T.X.env.scope x) (hval : SV T G value G1 mv) (hk1 : SR T G1 k1 fk1 tk1) (hk2 : SR T G1 k2 fk2 tk2) (hs1 : NoSl k1) (hm1 : G1.getD i .fz = .ow 2)
    (hb : attributeBase (.Name x xp) f T.X.env (eval (.Name x xp) T.X.env) = eval (.Name x xp) T.X.env := by rfl)
    (hs : swapsWith value (some (.Subscript (.Subscript (.Attribute (.Name x xp) f p1) k1 p2) k2 p3)) pos.line T.X.env = pure false := by rfl) (hd : (x == ("__debug__" : Str)) = false := by decide) (hcd : (x == ("__classdict__" : Str)) = false := by decide) :
    SS T S G (.Assign [.Subscript (.Subscript (.Attribute (.Name x xp) f p1) k1 p2) k2 p3] value pos) G1 (sPut2 i c f mv fk1 fk2) := PSimp (ps_dput (by have := ok.un; omega) (pe_dget (by have := ok.un; omega) (pe_fld (pe_var hN hv hd hcd) hb) hk1.1 hs1) hk2.1 hval hs) fun E σ H ⟨F, ρ, fps, r, mm⟩ => by
  obtain ⟨A, hA, hc, hn⟩ := cs.ex
  refine seqS r mm fun vd vv F1 H1 ρ1 fps1 fp1 e1 r1 z1 m1 => ?_
  obtain ⟨rfl, z1⟩ := z1
  rw [List.nil_append] at m1
  cases q1 : (ρ1[i]?).join with
  | none => simp only [q1, Option.bind_none] at m1; exact m1.elim
  | some d =>
    cases qk1 : fk1 ρ1 with
    | none => simp only [q1, qk1, Option.bind_some, Option.bind_none] at m1; exact m1.elim
    | some kd1 =>
      cases qk2 : fk2 ρ1 with
      | none => simp only [q1, qk1, qk2, Option.bind_some, Option.bind_none] at m1; exact m1.elim
      | some kd2 =>
        simp only [q1, qk1, qk2, Option.bind_some] at m1
        cases qp : put2D c f d kd1 kd2 vd with
        | none => simp only [qp] at m1; exact m1.elim
        | some d' =>
          simp only [qp] at m1
          cases d <;> simp only [put2D, reduceCtorEq] at qp
          case obj c' ns vs =>
            by_cases ec : c' = c
            case neg => rw [if_neg ec] at qp; cases qp
            case pos =>
              rw [if_pos ec] at qp
              subst ec
              cases qj : posK ns f with
              | none => rw [qj] at qp; cases qp
              | some j =>
                rw [qj, Option.bind_some] at qp
                cases qv : vs[j]? with
                | none => rw [qv] at qp; cases qp
                | some d1 =>
                  rw [qv, Option.bind_some] at qp
                  cases qe : entD d1 kd1 with
                  | none => rw [qe] at qp; cases qp
                  | some je =>
                    obtain ⟨j1, d2⟩ := je
                    rw [qe, Option.bind_some] at qp
                    cases qd : dputD d2 kd2 vd with
                    | none => simp only [qd] at qp; cases qp
                    | some d2' =>
                      simp only [qd, Option.map_some, Option.some.injEq] at qp
                      subst qp
                      obtain ⟨v0, fp0, ev0, ef0, own⟩ := r1.slot i _ (join_some q1)
                      rw [hm1] at own
                      obtain ⟨p, A', dx, xs, g, rfl, rfl, h0, h1, h2, h3⟩ := own
                      rw [hA] at h0; cases h0
                      have nd := part_nodup (List.nodup_append.mp r1.nd).2.1 ef0
                      have nd' := List.nodup_cons.mp nd
                      refine ⟨.ref p, ev0, ?_⟩
                      obtain ⟨x1, f1, hx1, own1, sf1⟩ := ownL_at h2 qv
                      refine ⟨p, A, dx, _, x1, rfl, h1, hc, hn f hf, posK_lookup qj hx1, ?_⟩
                      refine hk1.2 σ H1 _ F1 ρ1 fps1 [] kd1 r1 qk1 fun y1 hy1 => ?_
                      obtain ⟨ks1, vs1, kk1, rfl, rfl, hp1, hv1⟩ := entD_is qe hy1
                      obtain ⟨a1, xs1, g1, rfl, rfl, h4, h5, h6, h7⟩ := own1
                      obtain ⟨x2, f2, hx2, own2, sf2⟩ := ownL_at h5 hv1
                      refine ⟨a1, x2, rfl, .inl ⟨_, kk1, .inl h4, rfl, (posK_valV hp1 hx2).symm⟩, ?_⟩
                      refine hk2.2 σ H1 _ F1 ρ1 fps1 [] kd2 r1 qk2 fun y2 hy2 => ?_
                      have nf2 : f2.Nodup := sf2.nodup (List.nodup_cons.mp (sf1.nodup nd'.2)).2
                      obtain ⟨p2', H', f2', rfl, hp2, dp, ⟨o, rfl, nt⟩, sf2', own2'⟩ := dput_of (n := 0) r1.sub own2 hy2 ⟨rfl, z1⟩ nf2 qd
                      -- the object's fields
                      obtain ⟨x1', f1', hx1', own1', sf1', kk⟩ := OwnL.mod (P' := Own T.C F1 (upd H1 p2' o) 2) h2 nd'.2 qv
                      rw [hx1] at hx1'; cases hx1'
                      obtain ⟨a1', xs1', g1', ea, rfl, h4', h5', h6', h7'⟩ := own1'
                      cases ea
                      rw [h4] at h4'
                      have exs : xs1' = xs1 := by
                        have e := HO.dK.inj (Option.some.inj h4')
                        have l1 : ks1.length = xs1.length := by rw [h6, OwnL.length h5]
                        have l2 : ks1.length = xs1'.length := by rw [h6', OwnL.length h5']
                        have := congrArg (fun l => l.map (·.2)) e
                        simp only [List.map_snd_zip (Nat.le_of_eq l1.symm), List.map_snd_zip (Nat.le_of_eq l2.symm)] at this
                        exact this.symm
                      subst exs
                      obtain ⟨pg, g2, sg2, own3⟩ := own_ent (p2 := p2') (o := o) (d2' := d2') h4 h5' h6' h7' (sf1'.nodup nd'.2) hv1 fun x f hx own ndf => by
                        rw [hx2] at hx; cases hx
                        obtain ⟨p3, H3, f3, ea, hp3, dp3, ⟨o3, eH, nt3⟩, sf3, own3⟩ := dput_of (n := 0) r1.sub own hy2 ⟨rfl, z1⟩ ndf qd
                        cases ea
                        have eo : upd H1 p2' o = upd H1 p2' o3 := by
                          rcases dp with ⟨kvs, k, b1, b2, b3, b4⟩ | ⟨kvs, k, b, b1, b2, b3, b4, b5⟩ <;> rcases dp3 with ⟨kvs', k', c1, c2, c3, c4⟩ | ⟨kvs', k', b', c1, c2, c3, c4, c5⟩
                          · rw [b1] at c1
                            have e1 : kvs = kvs' := HO.dK.inj (Option.some.inj c1)
                            have e2 : k = k' := kV_inj (b2.symm.trans c2)
                            rw [b4, ← eH, c4, e1, e2]
                          · rw [b1] at c1; cases c1
                          · rw [b1] at c1; cases c1
                          · rw [b1] at c1
                            have e1 : kvs = kvs' := HO.dT.inj (Option.some.inj c1)
                            have eb : b = b' := V.ref.inj (b2.symm.trans c2)
                            subst eb
                            rw [b3] at c3
                            have e2 : k = k' := by
                              have := HO.tup.inj (Option.some.inj c3)
                              exact mapK_inj this
                            rw [b5, ← eH, c5, e1, e2]
                        rw [eo]
                        exact ⟨hp3, f3, sf3, by rw [← eH]; exact own3⟩
                      obtain ⟨g', sg, h8⟩ := kk _ (a1 :: g2) (List.Sublist.cons₂ a1 sg2) own3 fun d x f2 hf z => own_keep z fun hz => (hf p2' hz).2 (List.mem_cons_of_mem _ pg)
                      have pin : p2' ∈ g := sf1'.subset (List.mem_cons_of_mem _ pg)
                      have ownF : Own T.C F1 (upd H1 p2' o) 3 (.obj c' ns (vs.set j (setEnt j1 d2' (.dic ks1 vs1)))) (.ref p) (p :: g') := ⟨p, A, dx, xs, g', rfl, rfl, hA, by
                        rw [upd_ne (fun z => nd'.1 (by rw [z]; exact pin))]; exact h1, h8, by simp [h3]⟩
                      obtain ⟨r2, x2⟩ := r1.chg ef0 hm1 ev0 (List.mem_cons_of_mem _ pin) nt (List.Sublist.cons₂ p sg) ownF
                      exact ⟨p2', _, rfl, dp, m1 σ F1 _ _ x2 r2⟩
end
end DM
end
section
set_option autoImplicit false
set_option Elab.async false
set_option linter.all false
set_option maxRecDepth 100000
set_option maxHeartbeats 4000000
/-! DM25: dict comprehensions. -/
namespace DM
open PySem PySem.Spec PyProof.Rows L2

def hasK {κ : Type} [DecidableEq κ] (ks : List κ) (k : κ) : Bool := decide (k ∈ ks)
theorem hasK_of {κ : Type} [DecidableEq κ] {ks : List κ} {k : κ} (h : k ∈ ks) : hasK ks k = true := decide_eq_true h
def dcL (vs : List Nat) (b : Bd) (mt : M Bool) (mk mv : M D) : List D → List Key → List D → DEnv → R (List Key × List D)
  | [], ks, acc, ρ => .ok (ks, acc) ρ
  | d :: ds, ks, acc, ρ => match b d ρ with
    | none => .bad
    | some ρ1 => match mt ρ1 with
      | .ok true ρ2 => (match mk ρ2 with
        | .ok y ρ3 => (match mv ρ3 with
          | .ok z ρ4 => (match keyOf y with
            | some k => if hasK ks k = true then .bad else dcL vs b mt mk mv ds (ks ++ [k]) (acc ++ [z]) (wipeD ρ4 vs)
            | none => .bad)
          | _ => .bad)
        | _ => .bad)
      | .ok false ρ2 => dcL vs b mt mk mv ds ks acc (wipeD ρ2 vs)
      | _ => .bad
def mDc (vs : List Nat) (m : M (List D)) (b : Bd) (mt : M Bool) (mk mv : M D) : M D := bindM m fun ds ρ => match dcL vs b mt mk mv ds [] [] (wipeD ρ vs) with
  | .ok acc ρ' => .ok (.dic acc.1 acc.2) (putD ρ vs ρ')
  | _ => .bad
theorem wipe_idem : ∀ (us : List Nat) (τ : Sl), L2.wipe (L2.wipe τ us) us = L2.wipe τ us := by
  intro us τ
  apply List.ext_getElem?
  intro j
  by_cases hj : j ∈ us
  · have e1 : ∀ τ' : Sl, (L2.wipe τ' us)[j]? = (τ'[j]?).map fun _ => none := by
      intro τ'
      induction us with
      | nil => cases hj
      | cons u us ih =>
        show ((L2.wipe τ' us).set u none)[j]? = _
        by_cases hu : u = j
        · subst hu
          by_cases hl : u < τ'.length
          · rw [List.getElem?_set_self (by rw [wipe_length]; exact hl), List.getElem?_eq_getElem hl]; rfl
          · rw [List.getElem?_eq_none (by rw [List.length_set, wipe_length]; omega), List.getElem?_eq_none (by omega)]; rfl
        · rw [List.getElem?_set_ne hu]
          rcases List.mem_cons.mp hj with z | z
          · exact absurd z.symm hu
          · exact ih z
    rw [e1, e1, Option.map_map]; rfl
  · rw [wipe_out hj]
theorem key_of {C : Cl} {F : Hp} {d : D} {v : V} {k : Key} (h : Rep C F d v) (e : keyOf d = some k) : v = kV k := by
  cases d <;> simp only [keyOf, reduceCtorEq, Option.some.injEq] at e
  case int i => subst e; unfold Rep at h; exact h
  case str i => subst e; unfold Rep at h; exact h.1
section
variable {T : Ct} {G G1 G2 G' : List Md} {pos : Pos}
theorem sf_dc {n : Nat} {kx vx tg iter : Expr} {ifs : List Expr} {scope : Scope} {own : List (Str × Nat)} {m : M (List D)} {b : Bd} {is : List Nat} {g : TG} {mt : M Bool} {mk mv : M D} (ok : T.Ok) (hi : SI T G tg iter G1 m) (bo : BlkOk T.X.N T.X.env.scope scope own)
    (hg : ∀ (s : Shared) (H : Hp) (c : Addr) (cl : List (Str × Addr)) (fp : List Addr), SG (T.blk s H scope c cl fp) G1 tg is G1 b g)
    (ht : ∀ (s : Shared) (H : Hp) (c : Addr) (cl : List (Str × Addr)) (fp : List Addr), STs (T.blk s H scope c cl fp) G1 ifs G1 mt)
    (hk : ∀ (s : Shared) (H : Hp) (c : Addr) (cl : List (Str × Addr)) (fp : List Addr), SV (T.blk s H scope c cl fp) G1 kx G1 mk)
    (he : ∀ (s : Shared) (H : Hp) (c : Addr) (cl : List (Str × Addr)) (fp : List Addr), PE (T.blk s H scope c cl fp).X vx (tG (T.blk s H scope c cl fp) G1 G1 (rrOf T.C (kd n)) mv))
    (his : ∀ i ∈ is, i ∈ own.map (·.2)) (hn : (own.map (·.2)).Nodup) (hm : ∀ i ∈ own.map (·.2), G1.getD i .fz = .fz) (hp : ∀ p ∈ T.pin, p.1 ∉ own.map (·.2)) (hs : foldedSetIterable iter T.X.env = pure := by rfl) :
    SF T G (.DictComp kx vx [⟨tg, iter, ifs, 0⟩] scope pos) n G1 (mDc (own.map (·.2)) m b mt mk mv) := by
  generalize hvs : own.map (·.2) = vs at *
  have h := pe_dc (pos := pos) ok.calm ok.nd hi bo (fun s H c cl fp => (hg s H c cl fp).1) (fun s H c cl fp => (show PTs _ ifs (tG (T0 T) G1 G1 rB mt) from ht s H c cl fp)) (fun s H c cl fp => (show PE _ kx (tG (T0 T) G1 G1 (rV T.C) mk) from hk s H c cl fp)) (fun s H c cl fp => (show PE _ vx (tG (T0 T) G1 G1 (rrOf T.C (kd n)) mv) from he s H c cl fp)) fun x => by rw [hs]
  rw [hvs] at h
  refine ⟨fun pins0 s0 σ0 H0 Q0 I0 q0 => (PEimp h fun σ H Q ⟨F, ρ, fps, ex, r0, m0⟩ => ?_ : PE T.X _ (tG T G G1 (rF T.C n) (mDc vs m b mt mk mv))).run pins0 s0 σ0 H0 Q0 I0 q0⟩
  have kg := (hg s0 H0 0 [] []).2
  refine seqR r0 m0 fun ds J F1 H1 ρ1 fps1 fp1 e1 r1 z1 m1 => ?_
  obtain ⟨rfl, hlen, Sx, s1, s2, wk⟩ := z1
  intro Dn hD
  have r1' : Rel T.C T.pin G1 F1 H1 σ ρ1 fps1 ex := r1
  refine ⟨fun i k H' => k + i = ds.length ∧ ∃ F' ρ' fps' ks acc accD gg, Rel T.C T.pin G1 F' H' (L2.wipe σ vs) ρ' fps' ((Dn :: gg) ++ ex) ∧ Ext F1 H1 fps1.flatten F' H' ((Dn :: gg) ++ fps'.flatten) ∧ H' Dn = some (.dK (ks.zip acc)) ∧ OwnL (Own T.C F' H' n) accD acc gg ∧ ks.length = accD.length ∧ accD.length ≤ i ∧
    (match dcL vs b mt mk mv (ds.drop i) ks accD ρ' with
      | .ok acc ρ'' => Rem T G1 (rF T.C n) (.ok (.dic acc.1 acc.2) (putD ρ1 vs ρ'')) F1 H1 fps1 ex σ Q
      | _ => False), ⟨ds.length, rfl, F1, wipeD ρ1 vs, fps1, [], [], [], [], (r1'.wipe vs hp).new hD (fun _ e => by cases e), Ext.new hD, upd_same, ⟨rfl, rfl⟩, rfl, Nat.le_refl _, ?_⟩, ?_⟩
  · rw [List.drop_zero]
    cases q : dcL vs b mt mk mv ds [] [] (wipeD ρ1 vs) with
    | ok acc ρ' => simp only [q] at m1; exact m1
    | ex c ns xs ρ' => simp only [q] at m1; exact m1.elim
    | bad => simp only [q] at m1; exact m1.elim
  rintro i k H' ⟨hn', F', ρ', fps', ks, acc, accD, gg, r', e', hDn, racc, lks, lacc, m'⟩
  have hS : Sub Sx H' := fun a o q => e'.e2 a o (s1 a o q) (s2 a o q)
  obtain ⟨g', st⟩ := wk F' H' i hS e'.e1 r'.sub
  by_cases hi' : ds.length ≤ i
  · rw [List.drop_eq_nil_of_le hi'] at m'
    simp only [dcL] at m'
    refine .inl ⟨st hi', ?_⟩
    obtain ⟨fps2, hs2, r2⟩ := Rel.put (ex := (Dn :: gg) ++ ex) r1' e'.e1 vs ρ' fps' hn hm hp r'
    refine m' (.ref Dn) F' H' fps2 (Dn :: gg) ⟨e'.e1, e'.e2, e'.e3, fun a ha => ?_⟩ r2 ?_
    · refine e'.e4 a ?_
      rcases List.mem_append.mp ha with z | z
      · exact List.mem_append_left _ z
      · exact List.mem_append_right _ (hs2 a z)
    · show Own T.C F' H' (n + 1) (.dic ks accD) (.ref Dn) (Dn :: gg)
      exact ⟨Dn, acc, gg, rfl, rfl, hDn, racc, lks, Nat.le_trans (by omega) hlen⟩
  · have hi2 : i < ds.length := Nat.lt_of_not_le hi'
    rw [List.drop_eq_getElem_cons hi2] at m'
    obtain ⟨g1, g2⟩ := g' ds[i] (List.getElem?_eq_getElem hi2)
    refine .inr ⟨g1, fun H'' => ∃ F' ρ' fps' ks acc accD gg, Rel T.C T.pin G1 F' H'' (L2.wipe σ vs) ρ' fps' ((Dn :: gg) ++ ex) ∧ Ext F1 H1 fps1.flatten F' H'' ((Dn :: gg) ++ fps'.flatten) ∧ H'' Dn = some (.dK (ks.zip acc)) ∧ OwnL (Own T.C F' H'' n) accD acc gg ∧ ks.length = accD.length ∧ accD.length ≤ i + 1 ∧
      (match dcL vs b mt mk mv (ds.drop (i + 1)) ks accD ρ' with
        | .ok acc ρ'' => Rem T G1 (rF T.C n) (.ok (.dic acc.1 acc.2) (putD ρ1 vs ρ'')) F1 H1 fps1 ex σ Q
        | _ => False), fun H'' q => ⟨k - 1, by omega, by omega, q⟩, fun x H2 hy => ?_⟩
    have key : ∃ F2, Ext F' H' fps'.flatten F2 H2 fps'.flatten ∧ Rel T.C T.pin G1 F2 H2 (L2.wipe σ vs) ρ' fps' ((Dn :: gg) ++ ex) ∧ Rep T.C F2 ds[i] x := by
      rcases g2 x H2 hy with ⟨rfl, z⟩ | ⟨p, o, hp', rfl, z⟩
      · exact ⟨F', Ext.refl _ _ _, r', z⟩
      · exact ⟨_, Ext.newF r'.sub hp', r'.newF hp', z⟩
    obtain ⟨F2, e2, r2, z2⟩ := key
    unfold dcL at m'
    cases qb : b ds[i] ρ' with
    | none => simp only [qb] at m'
    | some ρ2 =>
      simp only [qb] at m'
      refine kg x (L2.wipe σ vs) F2 H2 ρ' ρ2 fps' ((Dn :: gg) ++ ex) ds[i] _ r2 z2 qb fun σ3 fps3 sub3 r3 w3 => ?_
      have w4 : L2.wipe σ3 vs = L2.wipe σ vs := by rw [w3 vs his]; exact wipe_idem vs σ
      have e3 : Ext F' H' fps'.flatten F2 H2 fps3.flatten := e2.less sub3
      refine ⟨w4, ?_⟩
      refine ⟨F2, ρ2, fps3, (Dn :: gg) ++ ex, r3, ?_⟩
      cases qt : mt ρ2 with
      | ex c ns xs ρ3 => simp only [qt] at m'
      | bad => simp only [qt] at m'
      | ok t ρ3 =>
        intro tb F4 H4 fps4 fp4 k4 r4 z4
        obtain ⟨rfl, rfl⟩ := z4
        rw [List.nil_append] at k4 r4
        have x4 := e3.trans k4
        have nr' := List.nodup_append.mp r'.nd
        have inD : Dn ∈ (Dn :: gg) ++ ex := List.mem_append_left _ List.mem_cons_self
        have nD' : Dn ∉ fps'.flatten := fun z => nr'.2.2 Dn inD Dn z rfl
        have nG' : ∀ a ∈ gg, a ∉ fps'.flatten := fun a ha z => nr'.2.2 a (List.mem_append_left _ (List.mem_cons_of_mem _ ha)) a z rfl
        have nDG : Dn ∉ gg := (List.nodup_cons.mp (List.nodup_append.mp nr'.1).1).1
        have liftO : ∀ {F5 H5 : Hp} {U5 : List Addr}, Ext F' H' fps'.flatten F5 H5 U5 → OwnL (Own T.C F5 H5 n) accD acc gg := fun x => OwnL.imp racc fun d v f hf z => Own.mono x.e1 n d v f (fun a ha o e => x.e2 a o e (nG' a (hf a ha))) z
        have lift : ∀ {F5 H5 : Hp} {U5 : List Addr}, Ext F' H' fps'.flatten F5 H5 U5 → Ext F1 H1 fps1.flatten F5 H5 ((Dn :: gg) ++ U5) := fun {F5 H5 U5} x => by
          have y := e'.trans (x.more fun a ha => List.mem_append_right _ ha)
          refine ⟨y.e1, y.e2, y.e3, fun a ha => ?_⟩
          rcases List.mem_append.mp ha with z | z
          · exact e'.e4 a (List.mem_append_left _ z)
          · exact y.e4 a z
        cases t with
        | false =>
          simp only [qt] at m'
          rw [if_neg (by decide)]
          exact ⟨F4, wipeD ρ3 vs, fps4, ks, acc, accD, gg, wipe_wipe w4 r4 hp, lift x4, x4.e2 Dn _ hDn nD', liftO x4, lks, Nat.le_succ_of_le lacc, m'⟩
        | true =>
          simp only [qt] at m'
          rw [if_pos rfl]
          refine ⟨F4, ρ3, fps4, (Dn :: gg) ++ ex, r4, ?_⟩
          cases qe : mk ρ3 with
          | ex c ns xs ρ4 => simp only [qe] at m'
          | bad => simp only [qe] at m'
          | ok y ρ5 =>
            simp only [qe] at m'
            intro yv F5 H5 fps5 fp5 k5 r5 z5
            obtain ⟨rfl, z5⟩ := z5
            rw [List.nil_append] at k5 r5
            have x5 := x4.trans k5
            refine ⟨F5, ρ5, fps5, (Dn :: gg) ++ ex, r5, ?_⟩
            cases qv : mv ρ5 with
            | ex c ns xs ρ4 => simp only [qv] at m'
            | bad => simp only [qv] at m'
            | ok z ρ6 =>
              simp only [qv] at m'
              intro zv F6 H6 fps6 fp6 k6 r6 z6
              have x6 := x5.trans k6
              cases qk : keyOf y with
              | none => simp only [qk] at m'
              | some kk =>
                simp only [qk] at m'
                by_cases hk0 : hasK ks kk = true
                · rw [if_pos hk0] at m'; exact m'.elim
                · rw [if_neg hk0] at m'
                  have hk' : kk ∉ ks := fun z => hk0 (hasK_of z)
                  have hD6 : H6 Dn = some (.dK (ks.zip acc)) := x6.e2 Dn _ hDn nD'
                  have lx : ks.length = acc.length := by rw [lks, OwnL.length racc]
                  have own6 := retR_kd z6
                  have nr6 := List.nodup_append.mp r6.nd
                  have nf6 := List.nodup_append.mp nr6.1
                  have pD : Dn ∉ fp6 := fun z => nf6.2.2 Dn z Dn inD rfl
                  refine ⟨ks.zip acc, kk, key_of z5 qk, hD6, by simp [lx, ← OwnL.length racc]; omega, F6, wipeD ρ6 vs, fps6, ks ++ [kk], acc ++ [zv], accD ++ [z], gg ++ fp6, ?_, ?_, ?_, ?_, by simp [lks], by simp; omega, m'⟩
                  · refine ((wipe_wipe w4 r6 hp).exUpd (p := Dn) (List.mem_append_right _ inD) (fun _ e => by cases e)).perm (fun a => ?_) ?_
                    · simp only [List.mem_append, List.mem_cons]
                      constructor
                      · rintro ((z | z | z) | z)
                        · exact .inr (.inl (.inl z))
                        · exact .inr (.inl (.inr z))
                        · exact .inl z
                        · exact .inr (.inr z)
                      · rintro (z | (z | z) | z)
                        · exact .inl (.inr (.inr z))
                        · exact .inl (.inl z)
                        · exact .inl (.inr (.inl z))
                        · exact .inr z
                    · have n7 := List.nodup_append.mp nf6.2.1
                      have n8 := List.nodup_cons.mp n7.1
                      refine List.nodup_append.mpr ⟨List.nodup_cons.mpr ⟨fun z => (List.mem_append.mp z).elim n8.1 pD, List.nodup_append.mpr ⟨n8.2, nf6.1, fun a ha b hb e => nf6.2.2 b hb a (List.mem_append_left _ (List.mem_cons_of_mem _ ha)) e.symm⟩⟩, n7.2.1, fun a ha b hb e => ?_⟩
                      rcases List.mem_cons.mp ha with z | z
                      · exact n7.2.2 a (by rw [z]; exact List.mem_cons_self) b hb e
                      · rcases List.mem_append.mp z with z | z
                        · exact n7.2.2 a (List.mem_cons_of_mem _ z) b hb e
                        · exact nf6.2.2 a z b (List.mem_append_right _ hb) e
                  · have y := lift x6
                    refine ⟨y.e1, fun a o ea na => ?_, y.e3, fun a ha => y.e4 a ?_⟩
                    · rw [upd_ne (fun z => by rw [z, hD] at ea; cases ea)]
                      exact y.e2 a o ea na
                    · simp only [List.mem_append, List.mem_cons] at ha ⊢
                      rcases ha with (z | z | z) | z
                      · exact .inl (.inl z)
                      · exact .inl (.inr z)
                      · exact .inr (.inl z)
                      · exact .inr (.inr z)
                  · rw [upd_same, putK_zip lx]
                    simp [putKs, putVs, hk']
                  · refine OwnL.append (OwnL.imp (liftO x6) fun d v f hf z => own_keep z fun hz => nDG (hf Dn hz)) ⟨zv, [], fp6, [], rfl, by simp, own_keep own6 pD, rfl, rfl⟩
end
end DM
end
section
set_option autoImplicit false
set_option Elab.async false
set_option linter.all false
set_option maxRecDepth 100000
set_option maxHeartbeats 4000000
/-! DM26: enumerate of a tuple, zip. -/
namespace PySem
open Sem (wp)
open AutoSeq1 (wpAny_loadPart')
set_option maxHeartbeats 1000000 in
theorem dm_meets_enumerate1 {v : Value} {o : Obj} {H : Heap → Prop} (B : Begins v o H) :
    Meets (Builtin.«enumerate.__new__» ⟨[.type "enumerate", v], []⟩) (fun _ R s => H s.heap ∧
      R (.ok (.ret (.ref (s.heap.push o).objs.size))) { s with heap := (s.heap.push o).push { cls := .type "enumerate", data := .fields #[.none, .bool false, .ref s.heap.objs.size, rawInt 0, .none, .none] } }) :=
  .of_wp fun prog w A R s h => by
    obtain ⟨hp, g, d, tk, os⟩ := s; obtain ⟨h1, h⟩ := h
    have hsub := sub_enumerate
    have q1 : ∀ {A' : Around} {E : Value → Shared → Prop} {Q : Value → Shared → Prop}, Q (.ref hp.objs.size) ⟨hp.push o, g, d, tk, os⟩ → wpAny (model prog w) A' (pyIter v) Q E ⟨hp, g, d, tk, os⟩ :=
      fun q => B.iter prog w _ _ ⟨hp, g, d, tk, os⟩ _ h1 q
    wp_walk using q1
    refine wpAny_stack_any fun st => wpAny_pure ?_
    split
    · rename_i c _ _ _ _ _
      cases (c == Value.type "enumerate")
      · wp_walk using q1
        exact ⟨_, rfl, h⟩
      · wp_walk using q1
        exact ⟨_, rfl, h⟩
    · wp_walk using q1
      exact ⟨_, rfl, h⟩
theorem dm_call_enumerate {prog : Program} {w : World} {A : Around} {E : Value → Shared → Prop} {s : Shared} {v : Value} {o : Obj} {H : Heap → Prop} {Q : Value → Shared → Prop} (B : Begins v o H) (h1 : H s.heap)
    (h : ∀ h', IsEnum h' (s.heap.objs.size + 1) s.heap.objs.size 0 .none → h'.get? s.heap.objs.size = some o → h'.objs.size = s.heap.objs.size + 2 →
      (∀ b o, s.heap.get? b = some o → h'.get? b = some o) → Q (.ref (s.heap.objs.size + 1)) { s with heap := h' }) :
    wpAny (model prog w) A (call (.type "enumerate") [v]) Q E s := by
  refine callType_new F.called_enumerate (by decide) (F.typeCall_enumerate_1 _) (F.newCall_enumerate_1 _) (fun obj => F.args_object_init_2 obj _) F.entry_enumerate_new
    (dm_meets_enumerate1 B) ⟨h1, ?_⟩
  have hz : (s.heap.push o).objs.size = s.heap.objs.size + 1 := Heap.size_push ..
  show _ ∧ _
  rw [hz]
  have he : IsEnum ((s.heap.push o).push { cls := .type "enumerate", data := .fields #[.none, .bool false, .ref s.heap.objs.size, rawInt 0, .none, .none] }) (s.heap.objs.size + 1) s.heap.objs.size 0 .none := by
    have := Heap.get?_push_size (s.heap.push o) (o := { cls := .type "enumerate", data := .fields #[.none, .bool false, .ref s.heap.objs.size, rawInt 0, .none, .none] }) rfl
    rw [hz] at this; exact this
  refine ⟨⟨_, he, rfl⟩, h _ he (Heap.get?_push_of_some _ (Heap.get?_push_size _ B.free)) (by rw [Heap.size_push, hz]) fun b o x => Heap.get?_push_of_some _ (Heap.get?_push_of_some _ x)⟩
theorem dm_enum_endT {prog : Program} {w : World} {A : Around} {E : Value → Shared → Prop} {s : Shared} {e it l : Addr} {i : Nat} {items : Array Value} {old : Value} {Q : Option Value → Shared → Prop} (hh : A.handled = none)
    (he : IsEnum s.heap e it i old) (hit : s.heap.IsTupleIter it l i) (hl : s.heap.IsTuple l items) (hx : items[i]? = none)
    (hQ : ∀ h', Heap.ExtBut it s.heap h' → Q none { s with heap := h' }) : wpAny (model prog w) A (pyNext (.ref e)) Q E s := by
  have hT : s.TypeIs (.ref e) "enumerate" := ⟨_, he, rfl⟩
  unfold pyNext
  refine wpAny_bind (wpAny_attempt (wpAny_callSpecial?_slot (name := Str.ofString "__next__") hT F.slot_enumerate_next
    (wpAny_call_entry F.slot_enumerate_next hT F.entry_enumerate_next ?_ (F.args_enumerate_next_1 _))))
  show wpAny _ _ (field (.ref e) 2 >>= _) _ _ _
  refine wpAny_bind (wpAny_field he rfl (x := .ref it) rfl ?_)
  refine wpAny_bind (wpAny_nextOf_tuple_end hh hit hl hx fun h' x he' hx' => ?_)
  obtain ⟨o, ho, hc⟩ := hx'
  refine wpAny_bind (wpAny_isInstance (T := "StopIteration") (b := true) ⟨o, ho, hc⟩ isSubtype_stop ?_)
  exact wpAny_pure (hQ _ he')
end PySem
namespace DM
open PySem PySem.Spec PyProof.Rows L2
def IteT (K : PySem.W.Frag) (a : Addr) : It :=
  ⟨fun i H => ∃ (xs : List V) (x : V), SqT K H a xs ∧ xs[i]? = some x, fun i H v H' => ∃ T x, v = .ref T ∧ H T = none ∧ H' = upd H T (.tup [.int (i : Nat), x]) ∧ ∀ xs, SqT K H a xs → xs[i]? = some x, fun i H => ∃ xs : List V, SqT K H a xs ∧ xs.length ≤ i⟩
theorem turn_enumT {P : Program} {w : World} {K : PySem.W.Frag} {elts : List Expr} {kk : Nat} {tpos : Pos} (a e it : Addr) :
    Turn P w K (.Tuple elts kk tpos) (IteT K a) [e, it] e (fun i h => (∃ old, IsEnum h e it ((i : Nat) : Int) old) ∧ h.IsTupleIter it a i ∧ e ≠ it) where
  mem := by simp
  obj := fun i h st b hb => by
    obtain ⟨⟨old, he⟩, ⟨o, ho, hc, hd⟩, _⟩ := st
    have e' : b = e ∨ b = it := by simpa using hb
    rcases e' with z | z
    · rw [z]; exact ⟨_, he, fun v q => nomatch q⟩
    · rw [z]; exact ⟨o, ho, fun v q => by rw [hd] at q; cases q⟩
  keep := fun i h h' st k => let ⟨⟨old, he⟩, hi, hne⟩ := st; ⟨⟨old, k e (by simp) _ he⟩, hi.at fun o q => k it (by simp) o q, hne⟩
  item := by
    intro X hP hw hK hc i pins s σ H E I hf st hg
    subst hP hw hK
    obtain ⟨⟨old, he⟩, hit, hne⟩ := st
    obtain ⟨xs, x, hq, hx⟩ := hg
    obtain ⟨its, rv, p, hz⟩ := I.tuple hq
    obtain ⟨u, hu, ru⟩ := rv.get hx
    have hel : e < s.heap.objs.size := Heap.lt_size he
    have hil : it < s.heap.objs.size := by obtain ⟨_, q, _⟩ := hit; exact Heap.lt_size q
    have p' : s.heap.IsTuple a its.toArray := p
    have hae : a ≠ e := fun z => by
      obtain ⟨o, ho, hc', n', hd'⟩ := p'
      rw [z, he] at ho; cases ho; cases hd'
    have hai : a ≠ it := fun z => by
      obtain ⟨o, ho, hc', n', hd'⟩ := p'
      obtain ⟨o2, ho2, hc2, hd2⟩ := hit
      rw [z, ho2] at ho; cases ho; rw [hd2] at hd'; cases hd'
    have hlt : i < its.toArray.size := by
      have := (List.getElem?_eq_some_iff.mp hu).1
      simpa using this
    refine wpAny_pyNext_enum_itemD (Draws.tuple (A := X.A.in1) (I.ok.hd hc) it a hai its.toArray) he ⟨hit, p'⟩ hlt hne (by simp [hne, Ne.symm hae]) fun x' h' tk hP' ho hit' hT hsz hk => ?_
    have ex' : x' = u := by
      have : its.toArray[i]? = some u := by simpa using hu
      rw [this] at hP'; exact (Option.some.inj hP').symm
    subst ex'
    obtain ⟨hit', _⟩ := hit'
    refine ⟨_, rfl, wpAny_letOwnedTupleGo_enum (s := { s with heap := h', toks := tk + 1 }) ho fun h'' he' sb => ?_⟩
    have hT2 : h''.get? s.heap.objs.size = some { cls := .type "tuple", data := .seq #[.int i tk, x'] } := (sb.2 _ (Nat.ne_of_gt hel)).trans hT
    have new : ObjOk X.prog X.w (upd H s.heap.objs.size (.tup [.int (i : Nat), x])) h'' s.heap.objs.size (.tup [.int (i : Nat), x]) :=
      ⟨by show 2 ≤ sizeLine; decide, [.int i tk, x'], .cons ⟨_, rfl⟩ (.cons ru .nil), ⟨_, hT2, rfl, _, rfl⟩⟩
    have I1 : Inv X pins σ (upd H s.heap.objs.size (.tup [.int (i : Nat), x])) { s with heap := h'', toks := tk + 1 } :=
      I.turnedNew (ch := [e, it]) (fun b ob hb q => (sb.2 b (fun z => hb (by simp [z]))).trans (hk b ob (fun z => hb (by simp [z])) (fun z => hb (by simp [z])) q)) hf (Nat.le_refl _) new
    refine ⟨.ref s.heap.objs.size, _, I1, rfl, ⟨_, x, rfl, I.hok.fresh (Nat.le_refl _), rfl, fun ys hy => by rw [I.tuple_inj hy hq]; exact hx⟩, ⟨⟨x', ?_⟩, hit'.at fun o q => (sb.2 it (Ne.symm hne)).trans q, hne⟩, fun b hb => ?_⟩
    · have e1 : ((i + 1 : Nat) : Int) = (i : Int) + 1 := by omega
      rw [e1]; exact he'
    · have hb' : b < s.heap.objs.size := by
        have e' : b = e ∨ b = it := by simpa using hb
        rcases e' with z | z
        · rw [z]; exact hel
        · rw [z]; exact hil
      rw [upd_ne (Nat.ne_of_lt hb')]
      exact (hf b hb).1
  done := by
    intro X hP hw hK hc i pins s σ H E I hf st hg
    subst hP hw hK
    obtain ⟨⟨old, he⟩, hit, hne⟩ := st
    obtain ⟨xs, hq, hx⟩ := hg
    obtain ⟨its, rv, p, hz⟩ := I.tuple hq
    obtain ⟨f0, f1, f2, f3, f4, f5⟩ := hf it (by simp)
    have hl := rv.length
    have p' : s.heap.IsTuple a its.toArray := p
    exact dm_enum_endT (I.ok.hd hc) he hit p' (by simp; omega) fun h' eb => ⟨rfl, I.turned (t' := s.toks) (fun b o hb q => eb b o hb q) f0 f1 f3 f4 f5⟩
  self := fun A i s Q E st h => let ⟨⟨_, he⟩, _⟩ := st; wpAny_pyIter_enum he h
def iEnumT (K : PySem.W.Frag) (ta : TA) : TI := fun σ H R => ta σ H fun vs H1 => (∃ a xs, vs = [.ref a] ∧ SqL K H1 a xs ∧ R (Ite K a) H1) ∨ (∃ a xs, vs = [.ref a] ∧ SqT K H1 a xs ∧ R (IteT K a) H1)
theorem pi_enumA {X : Cx} {e : Expr} {ta : TA} {p pos tpos : Pos} {elts : List Expr} {kk : Nat} (hg : Gl X "enumerate") (hm : X.mg "enumerate" = none) (ha : PA X [e] ta) (hs : starEach [e] X.env = [(false, eval e X.env)] := by rfl) :
    PI X (.Tuple elts kk tpos) (.Call (.Name "enumerate" p) [e] [] pos) (iEnumT X.K ta) := by
  refine ⟨fun pins s σ H R I h => ?_⟩
  refine Call_ (ld_blt I hg hm boot_enumerate (PyProof.Rows.callWith_type1 (thn (ha.run pos pins s σ H _ I h) fun us s1 ⟨vs, H1, I1, r1, q1⟩ => ?_) hs rfl))
  have fin : ∀ {e it : Addr}, e = s1.heap.objs.size + 1 → it = s1.heap.objs.size → ∀ b ∈ [e, it], FpOk X pins H1 b := by
    rintro e it rfl rfl b hb
    have e' : b = s1.heap.objs.size + 1 ∨ b = s1.heap.objs.size := by simpa using hb
    have hle : s1.heap.objs.size ≤ b := by
      rcases e' with z | z
      · rw [z]; exact Nat.le_add_right _ _
      · rw [z]; exact Nat.le_refl _
    exact I1.fpOk hle (I1.hok.fresh hle)
  rcases q1 with ⟨a, xs, ex, hq, q⟩ | ⟨a, xs, ex, hq, q⟩
  · subst ex
    cases r1 with
    | cons r rr =>
      cases rr
      cases r
      obtain ⟨its, rv, p', hz⟩ := I1.list hq
      refine call_enumerate_list p'.isList fun h' he hit hsz hk => wpAny_pyIter_enum he ?_
      have I2 : Inv X pins σ H1 { s1 with heap := h' } := I1.kept (t' := s1.toks) hk
      exact ⟨s1.heap.objs.size + 1, [s1.heap.objs.size + 1, s1.heap.objs.size], _, _, H1, rfl, I2, turn_enum a (s1.heap.objs.size + 1) s1.heap.objs.size, ⟨⟨.none, he⟩, hit, Nat.succ_ne_self _⟩, fin rfl rfl, q⟩
  · subst ex
    cases r1 with
    | cons r rr =>
      cases rr
      cases r
      obtain ⟨its, rv, p', hz⟩ := I1.tuple hq
      have p2 : s1.heap.IsTuple a its.toArray := p'
      refine dm_call_enumerate (begins_tuple a its.toArray) p2 fun h' he hit hsz hk => wpAny_pyIter_enum he ?_
      have I2 : Inv X pins σ H1 { s1 with heap := h' } := I1.kept (t' := s1.toks) hk
      exact ⟨s1.heap.objs.size + 1, [s1.heap.objs.size + 1, s1.heap.objs.size], _, _, H1, rfl, I2, turn_enumT a (s1.heap.objs.size + 1) s1.heap.objs.size, ⟨⟨.none, he⟩, ⟨_, hit, rfl, rfl⟩, Nat.succ_ne_self _⟩, fin rfl rfl, q⟩
/-- a list or a tuple, told -/
def seqOf : D → Option (List D)
  | .lst l => some l
  | .tup l => some l
  | .tpx l => some l
  | .scr ns => some (ns.map .int)
  | _ => none
def mEnumA (m : M (List Opn)) : M (List D) := bindM m fun os => fun ρ => match ((o1 os).bind fun o => resO ρ o).bind seqOf with
  | some l => .ok (enumL 0 l) ρ
  | none => .bad
theorem walks_enumL {C : Cl} {F S : Hp} {a : Addr} {l : List D} {ys : List V} (h1 : SqL C.K S a ys) (h2 : RepL C F l ys) : Walks C F S (Ite C.K a) (enumL 0 l) := fun F' H' i hS hF hH => by
  have h1' := hS.sqL h1
  refine ⟨fun d e => ?_, fun hi => ⟨ys, h1', by rw [enumL_len] at hi; rw [← h2.length]; exact hi⟩⟩
  rw [enumL_get] at e
  cases q : l[i]? with
  | none => rw [q] at e; cases e
  | some d' =>
    rw [q] at e
    cases e
    obtain ⟨y, hy, z⟩ := h2.get q
    refine ⟨⟨ys, y, h1', hy⟩, fun v H2 ⟨p, y', ev, hp, eH, ky⟩ => .inr ⟨p, _, hp, eH, ?_⟩⟩
    have := ky ys h1'
    rw [hy] at this; cases this
    subst ev
    rw [Nat.zero_add]
    exact pair_ok hH hp rep_int (Rep.mono hF d' y z)
theorem walks_enumT {C : Cl} {F S : Hp} {a : Addr} {l : List D} {ys : List V} (h1 : SqT C.K S a ys) (h2 : RepL C F l ys) : Walks C F S (IteT C.K a) (enumL 0 l) := fun F' H' i hS hF hH => by
  have h1' := hS.sqT h1
  refine ⟨fun d e => ?_, fun hi => ⟨ys, h1', by rw [enumL_len] at hi; rw [← h2.length]; exact hi⟩⟩
  rw [enumL_get] at e
  cases q : l[i]? with
  | none => rw [q] at e; cases e
  | some d' =>
    rw [q] at e
    cases e
    obtain ⟨y, hy, z⟩ := h2.get q
    refine ⟨⟨ys, y, h1', hy⟩, fun v H2 ⟨p, y', ev, hp, eH, ky⟩ => .inr ⟨p, _, hp, eH, ?_⟩⟩
    have := ky ys h1'
    rw [hy] at this; cases this
    subst ev
    rw [Nat.zero_add]
    exact pair_ok hH hp rep_int (Rep.mono hF d' y z)
section
variable {T : Ct} {G G1 G2 G' : List Md} {pos : Pos}
theorem si_enumA {a : Expr} {m : M (List Opn)} {B : Option Nat} {p tpos : Pos} {elts : List Expr} {kk : Nat} (ok : T.Ok) (hg : Gl T.X "enumerate") (hm : T.X.mg "enumerate" = none) (ha : SA T G [a] [B] G' m) (k : okW G' B = true := by rfl) (hs : starEach [a] T.X.env = [(false, eval a T.X.env)] := by rfl) :
    SI T G (.Tuple elts kk tpos) (.Call (.Name "enumerate" p) [a] [] pos) G' (mEnumA m) := PIimp (pi_enumA hg hm ha hs) fun σ H R ⟨F, ρ, fps, ex, r0, m0⟩ => by
  refine seqR r0 m0 fun os xs F1 H1 ρ1 fps1 fp1 e1 r1 z1 m1 => ?_
  obtain ⟨rfl, z1⟩ := z1
  cases q : (o1 os).bind fun o => resO ρ1 o with
  | none => simp only [q, Option.bind_none] at m1; exact m1.elim
  | some d =>
    simp only [q, Option.bind_some] at m1
    cases qs : seqOf d with
    | none => simp only [qs] at m1; exact m1.elim
    | some l =>
      simp only [qs] at m1
      obtain ⟨o, q0, q1⟩ := Option.bind_eq_some_iff.mp q
      have := o1_eq q0
      subst this
      cases xs with
      | nil => exact z1.elim
      | cons x xs =>
        have ex : xs = [] := by
          cases xs with
          | nil => rfl
          | cons _ _ => exact z1.2.elim
        subst ex
        obtain ⟨S, s1, s2, s3, op⟩ := stays r1 z1.1 q1 k
        rw [← ok.hK]
        cases d <;> simp only [seqOf, reduceCtorEq, Option.some.injEq] at qs
        case lst l' =>
          subst qs
          obtain ⟨a', ys, rfl, h1, h2, h3⟩ := op.lst s2
          exact .inl ⟨a', ys, rfl, SqL.of (s1 _ _ h1), Rem.fin (fp := []) m1 (Ext.refl _ _ _) r1 ⟨rfl, (by rw [enumL_len]; exact h3), S, s1, s3, walks_enumL (SqL.of h1) h2⟩⟩
        case tup l' =>
          subst qs
          obtain ⟨a', ys, rfl, h1, h2, h3⟩ := op.tup s2
          exact .inr ⟨a', ys, rfl, SqT.of (s1 _ _ h1), Rem.fin (fp := []) m1 (Ext.refl _ _ _) r1 ⟨rfl, (by rw [enumL_len]; exact h3), S, s1, s3, walks_enumT (SqT.of h1) h2⟩⟩
        case tpx l' =>
          subst qs
          obtain ⟨a', ob, ys, rfl, h1, _, h2, h3⟩ := op.tpx s2
          exact .inr ⟨a', ys, rfl, sqT_fz (s1 _ _ h1), Rem.fin (fp := []) m1 (Ext.refl _ _ _) r1 ⟨rfl, (by rw [enumL_len]; exact h3), S, s1, s3, walks_enumT (sqT_fz h1) h2⟩⟩
        case scr ns =>
          subst qs
          obtain ⟨a', rfl, h1, h3⟩ := op.scr s2
          exact .inl ⟨a', _, rfl, s1.sqL h1, Rem.fin (fp := []) m1 (Ext.refl _ _ _) r1 ⟨rfl, (by rw [enumL_len, List.length_map]; exact h3), S, s1, s3, walks_enumL h1 (rep_scr ns)⟩⟩
end
end DM
end
section
set_option autoImplicit false
set_option Elab.async false
set_option linter.all false
set_option maxRecDepth 100000
set_option maxHeartbeats 4000000
/-! DM27: comprehensions with two fors. -/
namespace DM
open PySem PySem.Spec PyProof.Rows L2

/-- what is walked is frozen -/
def rIz (C : Cl) : RRel (List D) It := fun ds _ F _ _ J fp => fp = [] ∧ ds.length ≤ sizeLine ∧ Walks C F F J ds
def SIz (T : Ct) (G : List Md) (tg iter : Expr) (G' : List Md) (m : M (List D)) : Prop := PI T.X tg iter (tG T G G' (rIz T.C) m)
def mItemsV (m : M D) : M (List D) := bindM m fun d => fun ρ => match itemsD d with
  | some ds => .ok ds ρ
  | none => .bad
def lc2i (vs1 : List Nat) (b1 : Bd) (mt1 : M Bool) (me : M D) : List D → List D → DEnv → R (List D)
  | [], acc, ρ => .ok acc ρ
  | d :: ds, acc, ρ => match b1 d ρ with
    | none => .bad
    | some ρ1 => match mt1 ρ1 with
      | .ok true ρ2 => (match me ρ2 with
        | .ok y ρ3 => if acc.length < sizeLine then lc2i vs1 b1 mt1 me ds (acc ++ [y]) (wipeD ρ3 vs1) else .bad
        | _ => .bad)
      | .ok false ρ2 => lc2i vs1 b1 mt1 me ds acc (wipeD ρ2 vs1)
      | _ => .bad
def lc2L (vs vs1 : List Nat) (b : Bd) (mt : M Bool) (mi : M (List D)) (b1 : Bd) (mt1 : M Bool) (me : M D) : List D → List D → DEnv → R (List D)
  | [], acc, ρ => .ok acc ρ
  | d :: ds, acc, ρ => match b d ρ with
    | none => .bad
    | some ρ1 => match mt ρ1 with
      | .ok true ρ2 => (match mi ρ2 with
        | .ok ds1 ρ3 => (match lc2i vs1 b1 mt1 me ds1 acc (wipeD ρ3 vs1) with
          | .ok acc' ρ4 => lc2L vs vs1 b mt mi b1 mt1 me ds acc' (wipeD ρ4 vs)
          | _ => .bad)
        | _ => .bad)
      | .ok false ρ2 => lc2L vs vs1 b mt mi b1 mt1 me ds acc (wipeD ρ2 vs)
      | _ => .bad
def mLc2 (vs vs1 : List Nat) (m : M (List D)) (b : Bd) (mt : M Bool) (mi : M (List D)) (b1 : Bd) (mt1 : M Bool) (me : M D) : M D := bindM m fun ds ρ => match lc2L vs vs1 b mt mi b1 mt1 me ds [] (wipeD ρ vs) with
  | .ok acc ρ' => .ok (.lst acc) (putD ρ vs ρ')
  | _ => .bad
section
variable {T : Ct} {G G1 G2 G' : List Md} {pos : Pos}
/-- how things stand amid the turns: the list under way at Dn -/
def LcSt (T : Ct) (G1 : List Md) (ex : List Addr) (F1 H1 : Hp) (U1 : List Addr) (Dn : Addr) (σw : Sl) (H' : Hp) (ρ' : DEnv) (accD : List D) : Prop :=
  ∃ F' fps' acc, Rel T.C T.pin G1 F' H' σw ρ' fps' (Dn :: ex) ∧ Ext F1 H1 U1 F' H' (Dn :: fps'.flatten) ∧ H' Dn = some (.lst acc) ∧ RepL T.C F' accD acc
end
end DM
end
section
set_option autoImplicit false
set_option Elab.async false
set_option linter.all false
set_option maxRecDepth 100000
set_option maxHeartbeats 4000000
/-! DM28: a name set to a comprehension; sorted texts. -/
namespace PyProof.Rows
open PySem
section
variable {prog : Program} {w : World} {A : Around} {E : Value → Shared → Prop} {s : Shared}
theorem dm_collect_tuple {l : Addr} {vs : List Value} {Q : List Value → Shared → Prop} (hl : s.heap.IsTuple l vs.toArray)
    (h : Q vs { s with heap := (s.heap.push (seqObj "list" #[] 0)).update s.heap.objs.size (Obj.mapSeq (· ++ vs.toArray)) }) (hsz : vs.length ≤ sizeLine := by size_fits) :
    wpAny (model prog w) A (collect (.ref l)) Q E s := by
  obtain ⟨o, ho, hc, n, hd⟩ := id hl
  unfold collect
  refine wpAny_bind (wpAny_runValue (codeAny_builtin entry_proto_collect' ?_))
  show wpAny _ _ (do again (.builtin "list.__iadd__" ⟨[← newList [], .ref l], []⟩)) _ _ s
  refine wpAny_bind (wpAny_newList (wpAny_pure ⟨Code.quiet_builtin _ (by decide +kernel), codeAny_builtin entry_list_iadd' ?_⟩))
  show wpAny _ _ (Builtin.List.listExtendWith (.ref s.heap.objs.size) (.ref l) (.ref s.heap.objs.size)) _ _ { s with heap := s.heap.push (seqObj "list" #[] 0) }
  unfold Builtin.List.listExtendWith
  have ho' : (s.heap.push (seqObj "list" #[] 0)).get? l = some o := Heap.get?_push_of_some _ ho
  refine wpAny_bind (wpAny_typeOf (T := "tuple") ⟨o, ho', hc⟩ ?_)
  have ht : (Value.type "tuple" == Value.type "tuple") = true := by rfl
  rw [if_pos (by rw [ht]; simp)]
  refine wpAny_bind (listItems_at ho' hd ?_)
  refine wpAny_bind (listItems_at (xs := #[]) (n := 0) (Heap.get?_push_size _ rfl) rfl ?_)
  rw [if_neg (by simp)]
  refine wpAny_bind (listUpdate_at (xs := #[]) (n := 0) (Heap.get?_push_size _ rfl) rfl ?_ (Nat.zero_le _) (by show (#[] ++ vs.toArray).size ≤ sizeLine + 1; simp only [Array.size_append, List.size_toArray, List.length_nil]; omega))
  refine wpAny_pure ?_
  show wpAny (model prog w) A (do
      let o ← load s.heap.objs.size
      match o.data with
      | .seq xs _ => pure xs.toList
      | _ => unsupported "internal:collect") Q E { s with heap := (s.heap.push (seqObj "list" #[] 0)).update s.heap.objs.size (Obj.mapSeq (· ++ vs.toArray)) }
  refine wpAny_bind (wpAny_load (get?_update_seq (Heap.get?_push_size _ rfl) _) ?_)
  show wpAny _ _ (pure ((#[] : Array Value) ++ vs.toArray).toList) Q E _
  rw [show ((#[] : Array Value) ++ vs.toArray).toList = vs by simp]
  exact wpAny_pure h
theorem dm_sortedKTup {κ : KeyKind} (hO : κ.OneLt) {l : Addr} {vs : List Value} {Q : Value → Shared → Prop} (hl : s.heap.IsTuple l vs.toArray) (h0 : KeysOf κ (pairsOf vs)) (hkk : ∀ v₁ v₂ rest, vs = v₁ :: v₂ :: rest → keyKind' (v₁ :: v₂ :: rest).toArray = pure oneType') (hL : vs.length ≤ sizeLine)
    (h : ∀ st' : SortSt, (arrOf st').Perm (pairsOf vs) → SortedToK κ (arrOf st') (pairsOf vs).size → Q (.ref (s.heap.objs.size + 1)) { s with heap := sortedAll s.heap vs ((arrOf st').map (·.2)) }) :
    wpAny (model prog w) A (call (.builtin "sorted") [.ref l]) Q E s := by
  refine Calls.call_function_entry kind_sorted plain_sorted entry_sorted (args_sorted1 _) ?_
  unfold Builtin.«sorted»
  refine wpAny_bind (m := checkCount "sorted" 1 1 _) (wpAny_pure ?_)
  refine wpAny_bind (dm_collect_tuple hl ?_)
  refine wpAny_bind (wpAny_newList ?_)
  have hsz : ((s.heap.push (seqObj "list" #[] 0)).update s.heap.objs.size (Obj.mapSeq (· ++ vs.toArray))).objs.size = s.heap.objs.size + 1 := by
    rw [Heap.size_update, size_push']
  have hoL : (((s.heap.push (seqObj "list" #[] 0)).update s.heap.objs.size (Obj.mapSeq (· ++ vs.toArray))).push (seqObj "list" vs.toArray 0)).get? (s.heap.objs.size + 1) = some (seqObj "list" vs.toArray 0) := by
    rw [← hsz]; exact Heap.get?_push_size _ rfl
  show wpAny _ _ _ _ _ { s with heap := ((s.heap.push (seqObj "list" #[] 0)).update s.heap.objs.size (Obj.mapSeq (· ++ vs.toArray))).push (seqObj "list" vs.toArray 0) }
  rw [hsz]
  refine wpAny_bind (wpAny_holding (wpAny_call_entry slot_list_sort ⟨_, hoL, rfl⟩ entry_list_sort (list_sort_treeKAny hO hoL h0 hkk hL fun st' a1 a2 => ⟨_, rfl, ?_⟩) (args_list_sort _)))
  exact wpAny_pure ⟨_, rfl, h st' a1 a2⟩
theorem dm_sorted_strsT {l : Addr} {vs : List Value} {ss : List Str} {Q : Value → Shared → Prop} (hl : s.heap.IsTuple l vs.toArray) (hS : StrsAre vs ss) (hL : vs.length ≤ sizeLine)
    (h : ∀ (out : Array Value) (ss' : List Str), StrsAre out.toList ss' → ss'.Perm ss → sortedS ss' = true → Q (.ref (s.heap.objs.size + 1)) { s with heap := sortedAll s.heap vs out }) :
    wpAny (model prog w) A (call (.builtin "sorted") [.ref l]) Q E s := by
  refine dm_sortedKTup strKind_oneLt hl hS.keysOf (fun v₁ v₂ rest e => keyKind_strs (by rw [← e]; exact hS)) hL fun st' hp hs => ?_
  obtain ⟨ss', h1, h2, h3⟩ := sorted_out_str hS hp hs
  exact h _ ss' h1 h2 h3
end
end PyProof.Rows
namespace DM
open PySem PySem.Spec PyProof.Rows L2
def rSortSA (K : PySem.W.Frag) : List V → Hp → VK → Prop := fun vs H Q => ∃ (a : Addr) (xs : List Str), vs = [V.ref a] ∧ (SqL K H a (xs.map V.str) ∨ SqT K H a (xs.map V.str)) ∧ xs.length ≤ sizeLine ∧
  ∀ (ys : List Str) (p : Addr), ys.Perm xs → sortedS ys = true → H p = none → Q (.ref p) (upd H p (.lst (ys.map V.str)))
theorem cr_sortSA {X : Cx} : CallR X (.builtin "sorted") (rSortSA X.K) := by
  intro pins s σ H vs us Q I r h
  obtain ⟨a, xs, rfl, hs, hz, q⟩ := h
  rw [Vals.ref1 r]
  have fin : ∀ {its : List Value}, Vals (xs.map V.str) its → ∀ (out : Array Value) (ys : List Str), StrsAre out.toList ys → ys.Perm xs → sortedS ys = true → EP X pins σ Q (.ref (s.heap.objs.size + 1)) { s with heap := sortedAll s.heap its out } := fun {its} rv out ys h1 h2 h3 => by
    obtain ⟨ep, he'⟩ := PyProof.Rows.sortedAll_at s.heap its out
    have hlen : (ys.map V.str).length ≤ sizeLine := by rw [List.length_map, h2.length_eq]; exact hz
    exact ⟨.ref _, upd H (s.heap.objs.size + 1) (.lst (ys.map V.str)), I.laid (t' := s.toks) (fun _ _ => PyProof.Rows.sortedAll_old) (Nat.le_succ _) ⟨hlen, out.toList, ep, vals_of_strs h1, he'⟩, rfl, q ys _ h2 h3 (I.hok.fresh (Nat.le_succ _))⟩
  rcases hs with hs | hs
  · obtain ⟨its, rv, hl, _⟩ := I.list hs
    have hlen0 := rv.length
    rw [List.length_map] at hlen0
    exact PyProof.Rows.sorted_strsAny hl.isList rv.strs (by omega) fun out ys h1 h2 h3 => fin rv out ys h1 h2 h3
  · obtain ⟨its, rv, hl, _⟩ := I.tuple hs
    have hlen0 := rv.length
    rw [List.length_map] at hlen0
    have hl' : s.heap.IsTuple a its.toArray := hl
    exact PyProof.Rows.dm_sorted_strsT hl' rv.strs (by omega) fun out ys h1 h2 h3 => fin rv out ys h1 h2 h3
/-! ### the sorted texts as a function -/
def leS (a b : Str) : Bool := !ltCps b.cps.toList a.cps.toList
theorem leS_iff {a b : Str} : leS a b = true ↔ a.cps.toList ≤ b.cps.toList := by
  unfold leS
  rw [ltCps_eq]
  simp
theorem leS_trans {a b c : Str} (h : leS a b = true) (k : leS b c = true) : leS a c = true := leS_iff.mpr (List.le_trans (leS_iff.mp h) (leS_iff.mp k))
theorem leS_total (a b : Str) : (leS a b || leS b a) = true := by
  rw [Bool.or_eq_true]
  rcases List.le_total a.cps.toList b.cps.toList with h | h
  · exact .inl (leS_iff.mpr h)
  · exact .inr (leS_iff.mpr h)
theorem leS_anti {a b : Str} (h : leS a b = true) (k : leS b a = true) : a = b := by
  have := List.le_antisymm (leS_iff.mp h) (leS_iff.mp k)
  cases a; cases b
  simp only [Str.mk.injEq]
  exact Array.toList_inj.mp this
theorem rising_all : ∀ {l : List Str} {p : Str}, risingS p l = true → (p :: l).Pairwise fun a b => leS a b = true
  | [], p, _ => List.pairwise_singleton _ _
  | x :: r, p, h => by
    unfold risingS at h
    rw [Bool.and_eq_true] at h
    have ih := rising_all h.2
    refine List.Pairwise.cons (fun y hy => ?_) ih
    rcases List.mem_cons.mp hy with z | z
    · rw [z]; exact h.1
    · exact leS_trans h.1 (List.rel_of_pairwise_cons ih z)
def sortStr (l : List Str) : List Str := l.mergeSort leS
theorem sortStr_is {ys xs : List Str} (h : ys.Perm xs) (s : sortedS ys = true) : ys = sortStr xs := by
  have p1 : ys.Pairwise fun a b => leS a b = true := by
    cases ys with
    | nil => exact List.Pairwise.nil
    | cons x r => exact rising_all s
  have p2 : (sortStr xs).Pairwise fun a b => leS a b = true := List.pairwise_mergeSort (le := leS) (fun a b c h k => leS_trans h k) leS_total xs
  exact List.Perm.eq_of_pairwise (fun a b _ _ => leS_anti) p1 p2 (h.trans (List.mergeSort_perm xs leS).symm)
def strsD : List D → Option (List Str)
  | [] => some []
  | .str b :: ds => (strsD ds).map (b :: ·)
  | _ :: _ => none
theorem strs_of {C : Cl} {F : Hp} : ∀ {ds : List D} {xs : List V} {bs : List Str}, RepL C F ds xs → strsD ds = some bs → xs = bs.map V.str ∧ ∀ z ∈ bs, z.length ≤ sizeLine ∧ PyData.strOk z = true
  | [], xs, bs, r, e => by unfold RepL at r; cases e; exact ⟨r, fun z hz => nomatch hz⟩
  | d :: ds, xs, bs, r, e => by
    unfold RepL at r
    obtain ⟨x, t, rfl, h1, h2⟩ := r
    cases d <;> simp only [strsD, reduceCtorEq] at e
    case str b =>
      cases q : strsD ds with
      | none => rw [q] at e; cases e
      | some bs' =>
        rw [q] at e; cases e
        obtain ⟨e1, k1⟩ := strs_of h2 q
        unfold Rep at h1
        refine ⟨by rw [e1, h1.1]; rfl, fun z hz => ?_⟩
        rcases List.mem_cons.mp hz with z' | z'
        · rw [z']; exact h1.2
        · exact k1 z z'
theorem rep_strs {C : Cl} {F : Hp} : ∀ {bs : List Str}, (∀ z ∈ bs, z.length ≤ sizeLine ∧ PyData.strOk z = true) → RepL C F (bs.map D.str) (bs.map V.str)
  | [], _ => RepL.nil
  | b :: bs, h => RepL.cons (rep_str (h b List.mem_cons_self).1 (h b List.mem_cons_self).2) (rep_strs fun z hz => h z (List.mem_cons_of_mem _ hz))
def tlD : D → Option (List D)
  | .lst l => some l
  | .tup l => some l
  | _ => none
def sortSD (d : D) : Option D := ((tlD d).bind strsD).map fun ss => .lst ((sortStr ss).map .str)
theorem prim_sortS {C : Cl} : PrimN C (rSortSA C.K) (fn1 sortSD) := prim_n1 fun F H d1 d x Q s h e q => by
  unfold sortSD at e
  cases q1 : tlD d1 with
  | none => rw [q1] at e; cases e
  | some l =>
    rw [q1, Option.bind_some] at e
    cases q2 : strsD l with
    | none => rw [q2] at e; cases e
    | some ss =>
      rw [q2] at e; cases e
      have key : ∀ {a : Addr} {xs : List V}, RepL C F l xs → l.length ≤ sizeLine → (SqL C.K H a xs ∨ SqT C.K H a xs) → x = .ref a → rSortSA C.K [x] H Q := fun {a xs} h2 h3 hs ex => by
        obtain ⟨e1, k1⟩ := strs_of h2 q2
        subst e1 ex
        have hl : ss.length ≤ sizeLine := by have := h2.length; rw [List.length_map] at this; omega
        refine ⟨a, ss, rfl, hs, hl, fun ys p hp hsrt hn => ?_⟩
        have ey := sortStr_is hp hsrt
        subst ey
        have k2 : ∀ z ∈ sortStr ss, z.length ≤ sizeLine ∧ PyData.strOk z = true := fun z hz => k1 z (hp.mem_iff.mp hz)
        exact q _ _ _ _ (NewOk.lst hn (rep_strs k2) (by rw [List.length_map, hp.length_eq]; exact hl))
      cases d1 <;> simp only [tlD, reduceCtorEq, Option.some.injEq] at q1
      case tup l' =>
        subst q1
        obtain ⟨a, xs, ex, h1, h2, h3⟩ := h.tup s
        exact key h2 h3 (.inr (SqT.of h1)) ex
      case lst l' =>
        subst q1
        obtain ⟨a, xs, ex, h1, h2, h3⟩ := h.lst s
        exact key h2 h3 (.inl (SqL.of h1)) ex
/-! ### repr of a truth value, None -/
def rReprB : List V → Hp → VK → Prop := fun xs H Q => (∃ b, xs = [.bl b] ∧ Q (.str (if b then "True" else "False")) H) ∨ (xs = [.non] ∧ Q (.str "None") H)
def reprBD : D → Option D
  | .bl b => some (.str (if b then "True" else "False"))
  | .non => some (.str "None")
  | _ => none
section
variable {T : Ct} {S : Gs} {G G1 G2 G' : List Md} {pos : Pos}
/-! ### name = [..] -/
theorem ss_asgLc {i : Nat} {x : Str} {py : Pos} {elt tg iter : Expr} {ifs : List Expr} {scope : Scope} {own : List (Str × Nat)} {m : M (List D)} {b : Bd} {is : List Nat} {g : TG} {mt : M Bool} {me : M D} {cpos : Pos} (ok : T.Ok) (hi0 : T.X.N[i]? = some x) (hx : T.X.env.scope.names.lookup x = some .local) (hl : T.X.N.length = G1.length) (hpi : ∀ p ∈ T.pin, p.1 ≠ i)
    (hi : SI T G tg iter G1 m) (bo : BlkOk T.X.N T.X.env.scope scope own)
    (hg : ∀ (s : Shared) (H : Hp) (c : Addr) (cl : List (Str × Addr)) (fp : List Addr), SG (T.blk s H scope c cl fp) G1 tg is G1 b g)
    (ht : ∀ (s : Shared) (H : Hp) (c : Addr) (cl : List (Str × Addr)) (fp : List Addr), STs (T.blk s H scope c cl fp) G1 ifs G1 mt)
    (he : ∀ (s : Shared) (H : Hp) (c : Addr) (cl : List (Str × Addr)) (fp : List Addr), SV (T.blk s H scope c cl fp) G1 elt G1 me)
    (his : ∀ i ∈ is, i ∈ own.map (·.2)) (hn : (own.map (·.2)).Nodup) (hm : ∀ i ∈ own.map (·.2), G1.getD i .fz = .fz) (hp : ∀ p ∈ T.pin, p.1 ∉ own.map (·.2))
    (hsw : swapsWith (.ListComp elt [⟨tg, iter, ifs, 0⟩] scope cpos) (some (.Name x py)) pos.line T.X.env = pure true := by rfl) (hs : foldedSetIterable iter T.X.env = pure := by rfl) :
    SS T S G (.Assign [.Name x py] (.ListComp elt [⟨tg, iter, ifs, 0⟩] scope cpos) pos) (G1.set i (.ow 0)) (sAsg i (mLc (own.map (·.2)) m b mt me)) := by
  have h := ps_setLc (py := py) (pos := cpos) (spos := pos) ok.calm ok.nd hi0 hx hsw hi bo (fun s H c cl fp => (hg s H c cl fp).1) (fun s H c cl fp => (show PTs _ ifs (tG (T0 T) G1 G1 rB mt) from ht s H c cl fp)) (fun s H c cl fp => (show PE _ elt (tG (T0 T) G1 G1 (rV T.C) me) from he s H c cl fp)) fun x => by rw [hs]
  exact ⟨fun pins0 s0 σ0 H0 D0 I0 q0 => (PSimp h fun E σ H ⟨F, ρ, fps, r, mm⟩ => lc_read (T := T) (hg s0 H0 0 [] []).2 his hn hm hp σ H _ (seqS r mm fun d x F1 H1 ρ1 fps1 fp1 e1 r1 z1 m1 => by
    have hil : i < ρ1.length := by rw [← r1.lg, ← hl]; exact (List.getElem?_eq_some_iff.mp hi0).1
    exact m1 _ F1 H1 (fps1.set i fp1) ⟨Sub.refl _, fun _ _ e _ => e, fun _ _ e => .inl e, fun a ha => by
      rcases flatten_set_sub ha with q | q
      · exact .inl (List.mem_append_left _ q)
      · exact .inl (List.mem_append_right _ q)⟩ (Rel.store (ex := []) (f := fp1) (md := .ow 0) (by rw [List.append_nil]; exact r1) hil hpi z1))).run pins0 s0 σ0 H0 D0 I0 q0⟩
/-! ### zip of two lists -/
def zipL : List D → List D → List D
  | a :: as, b :: bs => .tup [a, b] :: zipL as bs
  | _, _ => []
def o2 : List Opn → Option (Opn × Opn)
  | [a, b] => some (a, b)
  | _ => none
def mZip (m : M (List Opn)) : M (List D) := bindM m fun os => fun ρ => match (o2 os).bind fun o => ((resO ρ o.1).bind lstD).bind fun a => ((resO ρ o.2).bind lstD).map fun b => (a, b) with
  | some l => .ok (zipL l.1 l.2) ρ
  | none => .bad
def orH (F G : Hp) : Hp := fun a => match F a with
  | some o => some o
  | none => G a
end
end DM
end
section
set_option autoImplicit false
set_option Elab.async false
set_option linter.all false
set_option maxRecDepth 100000
set_option maxHeartbeats 4000000
/-! DM29: what the printed derivations use. -/
namespace DM
open PySem PySem.Spec PyProof.Rows L2
theorem Ct.Ok.u64 {T : Ct} (ok : T.Ok) : T.X.A.units + 64 < cLine := by have := ok.un; omega
theorem Ct.Ok.u65 {T : Ct} (ok : T.Ok) : T.X.A.units + 65 < cLine := by have := ok.un; omega
/-- a name's own thing, handed on -/
def eMov (i : Nat) : M D := fun ρ => match (ρ[i]?).join with
  | some d => .ok d (ρ.set i none)
  | none => .bad
theorem pinOk {io : List Nat} {i : Nat} {g : Nat → V} (h : io.all (fun j => j != i) = true) : ∀ p ∈ io.map (fun j => (j, g j)), p.1 ≠ i := fun p hp e => by
  obtain ⟨j, hj, rfl⟩ := List.mem_map.mp hp
  have := List.all_eq_true.mp h j hj
  subst e
  simp at this
theorem pinOks {io : List Nat} {vs : List Nat} {g : Nat → V} (h : io.all (fun j => !vs.contains j) = true) : ∀ p ∈ io.map (fun j => (j, g j)), p.1 ∉ vs := fun p hp e => by
  obtain ⟨j, hj, rfl⟩ := List.mem_map.mp hp
  have := List.all_eq_true.mp h j hj
  simp at this
  exact this e
theorem pinAll {io : List Nat} {is : List Nat} {g : Nat → V} (h : io.all (fun j => !is.contains j) = true) : ∀ i ∈ is, ∀ p ∈ io.map (fun j => (j, g j)), p.1 ≠ i := fun i hi p hp e => pinOks h p hp (by rw [e]; exact hi)
theorem allLt {is : List Nat} {n : Nat} (h : is.all (fun i => decide (i < n)) = true) : ∀ i ∈ is, i < n := fun i hi => of_decide_eq_true (List.all_eq_true.mp h i hi)
theorem allFz {is : List Nat} {G : List Md} (h : is.all (fun i => decide (G.getD i .fz = .fz)) = true) : ∀ i ∈ is, G.getD i .fz = .fz := fun i hi => of_decide_eq_true (List.all_eq_true.mp h i hi)
theorem allIn {is js : List Nat} (h : is.all (fun i => js.contains i) = true) : ∀ i ∈ is, i ∈ js := fun i hi => by
  have := List.all_eq_true.mp h i hi
  simpa using this
section
variable {T : Ct} {S : Gs} {G G1 G2 G' : List Md} {pos : Pos}
theorem sf_mov {i k : Nat} {x : Str} (hN : T.X.N[i]? = some x) (hv : Vis T.X.env.scope x) (hm : G.getD i .fz = .ow k) (hd : (x == ("__debug__" : Str)) = false := by decide) (hcd : (x == ("__classdict__" : Str)) = false := by decide) :
    SF T G (.Name x pos) k G (eMov i) := PEimp (pe_var hN hv hd hcd) fun σ H Q ⟨F, ρ, fps, ex, r, m⟩ => by
  unfold eMov at m
  cases q : (ρ[i]?).join with
  | none => simp only [q] at m; exact m.elim
  | some d =>
    simp only [q] at m
    obtain ⟨v, f, e1, e2, z⟩ := r.slot i d (join_some q)
    rw [hm] at z
    exact ⟨v, e1, m v F H (fps.set i []) f ⟨Sub.refl _, fun _ _ e _ => e, fun _ _ e => .inl e, fun a ha => .inl ((flat_take e2 a).mpr (List.mem_append.mp ha))⟩ (r.take e2) z⟩
end
/-- keeps its promise wherever there is room enough -/
def FnL (P : Program) (w : World) (K : PySem.W.Frag) (mg : Str → Option Value) (base : Heap) (C : Cl) (x : Str) (l : Nat) (g : Sig) : Prop := ∀ k, l ≤ k → FnS P w K mg base C x k g
def MtL (P : Program) (w : World) (K : PySem.W.Frag) (mg : Str → Option Value) (base : Heap) (C : Cl) (c : String) (m : Str) (l : Nat) (g : Sig) : Prop := ∀ k, l ≤ k → MtS P w K mg base C c m k g
def MkL (P : Program) (w : World) (K : PySem.W.Frag) (mg : Str → Option Value) (base : Heap) (C : Cl) (x : Str) (c : String) (l : Nat) (g : Sig) : Prop := ∀ k, l ≤ k → MkS P w K mg base C x c k g
theorem FnL.at {P : Program} {w : World} {K : PySem.W.Frag} {mg : Str → Option Value} {base : Heap} {C : Cl} {x : Str} {l k : Nat} {g : Sig} (h : FnL P w K mg base C x l g) (hk : l ≤ k) : FnS P w K mg base C x k g := h k hk
end DM
end
section
set_option autoImplicit false
set_option Elab.async false
set_option linter.all false
set_option maxRecDepth 100000
set_option maxHeartbeats 4000000
/-! DM30: in range(..), is None. -/
namespace DM
open PySem PySem.Spec PyProof.Rows L2
theorem op_notIn_rng {X : Cx} : OpR X (compareOp .NotIn) (fun x y H Q => ∃ i a lo hi, x = V.int i ∧ y = V.ref a ∧ H a = some (.rng lo hi) ∧ Q (.bl (!decide (lo ≤ i ∧ i < hi))) H) := by
  intro pins s σ H x y v u Q I rx ry h
  obtain ⟨i, a, lo, hi, rfl, rfl, ha, q⟩ := h
  obtain ⟨k, rfl⟩ := rx
  obtain rfl : u = Value.ref a := ry
  obtain ⟨t1, t2, t3, ho⟩ := I.hok a _ ha
  show wpAny _ _ (do return Value.bool (!(← contains (Value.ref a) (Value.int i k)))) _ _ s
  refine wpAny_bind (wpAny_contains_slot (T := "range") ⟨_, ho, rfl⟩ F.slot_range_contains (call_meets F.slot_range_contains ⟨_, ho, rfl⟩ F.entry_range_contains (F.args_range_contains_2 _ _) (q_contains a lo hi i t1 t2 t3 k)
    ⟨ho, wpAny_truthy_bool (wpAny_pure ⟨.bl _, H, I, rfl, ?_⟩)⟩))
  rw [place1]
  exact q
def rInRg (neg : Bool) : R2 := fun x y H Q => ∃ i a lo hi, x = V.int i ∧ y = V.ref a ∧ H a = some (.rng lo hi) ∧ Q (.bl (if neg then !decide (lo ≤ i ∧ i < hi) else decide (lo ≤ i ∧ i < hi))) H
def inRgD (neg : Bool) : D → D → Option D
  | .int i, .rng lo hi => some (.bl (if neg then !decide (lo ≤ i ∧ i < hi) else decide (lo ≤ i ∧ i < hi)))
  | _, _ => none
theorem prim_inRg {C : Cl} {neg : Bool} : Prim2 C (rInRg neg) (inRgD neg) := by
  intro F H d1 d2 d x y Q s h1 h2 e q
  cases d1 <;> cases d2 <;> simp only [inRgD, reduceCtorEq, Option.some.injEq] at e
  case int.rng i lo hi =>
    subst e
    have h2' : Rep C F (.rng lo hi) y := by
      rcases h2 with h | ⟨g, h⟩
      · exact h
      · exact h.2
    unfold Rep at h2'
    obtain ⟨a, rfl, h3⟩ := h2'
    rw [h1.int]
    exact ⟨i, a, lo, hi, rfl, rfl, s _ _ h3, q _ _ _ _ (NewOk.plain rfl rep_bl)⟩
def eRng (m : M (List D)) : M D := bindM m fun ds => fun ρ => match d2 ds with
  | some p => .ok (.rng p.1 p.2) ρ
  | none => .bad
section
variable {T : Ct} {S : Gs} {G G1 G2 G' : List Md} {pos : Pos}
theorem sv_rng {a b : Expr} {m : M (List D)} {p : Pos} (hg : Gl T.X "range") (hm : T.X.mg "range" = none) (ha : SX T G [a, b] [none, none] G' m) (hv : bootBuiltins "range" = some (.type "range")) (he : starEach [a, b] T.X.env = (false, eval a T.X.env) :: starEach [b] T.X.env := by rfl) (hpl : (backTo pos (starEach [b] T.X.env)).any (·.1) = false := by rfl) :
    SV T G (.Call (.Name "range" p) [a, b] [] pos) G' (eRng m) := PEimp (pe_callTy cr_range2 hg hm hv ha (by decide) (by decide) he hpl) fun σ H Q ⟨F, ρ, fps, ex, r0, m0⟩ => by
  refine seqR r0 m0 fun ds xs F1 H1 ρ1 fps1 fp1 e1 r1 z1 m1 => ?_
  obtain ⟨rfl, hr⟩ := z1.frozen rfl
  cases q : d2 ds with
  | none => simp only [q] at m1; exact m1.elim
  | some p =>
    simp only [q] at m1
    have := d2_eq q
    subst this
    have ex : xs = [.int p.1, .int p.2] := by
      unfold RepL RepL RepL at hr
      obtain ⟨x, r, rfl, h1, y, r', rfl, h2, rfl⟩ := hr
      unfold Rep at h1 h2; rw [h1, h2]
    refine ⟨p.1, p.2, ex, fun a ha => ?_⟩
    have r2 := r1.newF (o := .rng p.1 p.2) ha
    exact Rem.fin (fp := []) m1 (Ext.newF r1.sub ha) r2 ⟨rfl, by unfold Rep; exact ⟨a, rfl, upd_same⟩⟩
end
end DM
end
section
set_option autoImplicit false
set_option Elab.async false
set_option linter.all false
set_option maxRecDepth 100000
set_option maxHeartbeats 4000000
/-! DM31: l.index(x). -/
namespace DM
open PySem PySem.Spec PyProof.Rows L2
def ixR : Option (List D) → Option D → DEnv → R D
  | some l, some d, ρ => (match placeD l d with
    | some j => .ok (.int (j : Nat)) ρ
    | none => .bad)
  | _, _, _ => .bad
def mIndex (mo : M Opn) (ma : M (List Opn)) : M D := bindM mo fun o => fun ρ => match (resO ρ o).bind lstD with
  | some _ => bindM ma (fun os ρ => ixR ((resO ρ o).bind lstD) ((o1 os).bind (resO ρ)) ρ) ρ
  | none => .bad
section
variable {T : Ct} {S : Gs} {G G1 G2 G' : List Md} {pos : Pos}
theorem lst_ty {C : Cl} {F H : Hp} {d : D} {v : V} {l : List D} (s : Sub F H) (h : Opd C F H d v) (e : lstD d = some l) : ∃ a xs, v = .ref a ∧ H a = some (.lst xs) ∧ RepL C F l xs ∧ l.length ≤ sizeLine := by
  rw [lstD_eq e] at h
  exact h.lst s
theorem sv_index {o e : Expr} {B B' : Option Nat} {mo : M Opn} {m : M (List Opn)} {apos cpos : Pos} (ok : T.Ok) (ho : SO T G o B G1 mo) (ha : SA T G1 [e] [B'] G' m) (k0 : okB G1 B = true := by rfl) (k1 : okB G' B = true := by rfl) (k2 : okB G' B' = true := by rfl)
    (hbase : attributeBase o "index" T.X.env (eval o T.X.env) = eval o T.X.env := by rfl)
    (hfew : ((backTo cpos (starEach (e :: []) T.X.env)).all (fun x => !x.1) && (backToKw cpos (keywordEach [] T.X.env)).all (fun x => x.1.isSome)
      && decide ((e :: ([] : List Expr)).length + ([] : List Keyword).length + (if ([] : List Keyword).isEmpty then 0 else 1) < 30)) = true := by rfl)
    (hline : (apos.endLine == cpos.line) = true := by rfl) (hs : starEach (e :: []) T.X.env = (false, eval e T.X.env) :: starEach [] T.X.env := by rfl) (hplain : (backTo cpos (starEach [] T.X.env)).any (·.1) = false := by rfl) :
    SV T G (.Call (.Attribute o "index" apos) [e] [] cpos) G' (mIndex mo m) :=
  PEimp (pe_bm PySem.F.plainAttrs_list PySem.F.slot_list_index PySem.F.type_list_index (mt_indexD (by have := ok.un; omega)) ho ha hbase hfew hline hs hplain) fun σ H Q ⟨F, ρ, fps, ex, r0, m0⟩ => by
  refine seqR r0 m0 fun o x F1 H1 ρ1 fps1 fp1 e1 r1 z1 m1 => ?_
  obtain ⟨rfl, z1⟩ := z1
  cases q : resO ρ1 o with
  | none => simp only [q, Option.bind_none] at m1; exact m1.elim
  | some d =>
    simp only [q, Option.bind_some] at m1
    cases q2 : lstD d with
    | none => simp only [q2] at m1; exact m1.elim
    | some l =>
      simp only [q2] at m1
      obtain ⟨a, xs, rfl, h1, h2, h3⟩ := lst_ty r1.sub (opd_of r1 z1 q k0) q2
      refine ⟨.inl ⟨rfl, xs, SqL.of h1⟩, ?_⟩
      refine seqR r1 m1 fun os vs F2 H2 ρ2 fps2 fp2 e2 r2 z2 m2 => ?_
      obtain ⟨rfl, z2⟩ := z2
      cases q3 : resO ρ2 o with
      | none => simp only [q3, Option.bind_none, ixR] at m2; exact m2.elim
      | some d3 =>
        simp only [q3, Option.bind_some] at m2
        cases q4 : lstD d3 with
        | none => simp only [q4, ixR] at m2; exact m2.elim
        | some l3 =>
          cases q5 : o1 os with
          | none => simp only [q4, q5, Option.bind_none, ixR] at m2; exact m2.elim
          | some o2 =>
            have := o1_eq q5
            subst this
            cases q6 : resO ρ2 o2 with
            | none => simp only [q4, q5, q6, Option.bind_some, ixR] at m2; exact m2.elim
            | some dd =>
              simp only [q4, q5, q6, Option.bind_some, ixR] at m2
              cases q7 : placeD l3 dd with
              | none => simp only [q7] at m2; exact m2.elim
              | some j =>
                simp only [q7] at m2
                obtain ⟨a3, xs3, ea, g1, g2, g3⟩ := lst_ty r2.sub (opd_of r2 (z1.mono e2.e1) q3 k1) q4
                obtain ⟨p, ps, t1, t2, c1, c2, z, hz, hzj, hno⟩ := place_of q7
                cases vs with
                | nil => exact z2.elim
                | cons y vs =>
                  have ev : vs = [] := by
                    cases vs with
                    | nil => rfl
                    | cons _ _ => exact z2.2.elim
                  subst ev
                  have op := opd_of r2 z2.1 q6 k2
                  obtain ⟨a1, a2⟩ := dp_of dd y p (op.rep r2.sub) t1
                  obtain ⟨b1, b2⟩ := dp_ofL l3 xs3 ps (RepL.mono r2.sub l3 xs3 g2) t2
                  have sh : SeqAt.shaped (.list ps) = true := shaped_of (by unfold PyData.canLay0; exact b2) (by rw [depthAll_list]; omega)
                  rw [← ok.hK]
                  exact ⟨a3, y, p, ps, j, z, ea, rfl, .lst (SqL.of g1) b1, a1, sh, shaped_of a2 c1, hz, hzj, hno, Rem.fin (fp := []) m2 (Ext.refl _ _ _) r2 ⟨rfl, rep_int⟩⟩
/-! ### comparisons as tests -/
theorem op2_read {r : R2} {opD : D → D → Option D} {Ba Bb : Option Nat} {m1 m2 : M Opn} (pr : Prim2 T.C r opD) (ka : okB G2 Ba = true) (kb : okB G2 Bb = true) (σ : Sl) (H : Hp) (Q : VK) (w : tG T G G2 (rF T.C 0) (eBin opD m1 m2) σ H Q) : tOp r (tG T G G1 (rO T.C Ba) m1) (tG T G1 G2 (rO T.C Bb) m2) σ H Q := by
  obtain ⟨F, ρ, fps, ex, r0, m0⟩ := w
  refine seqR r0 m0 fun o1 x F1 H1 ρ1 fps1 fp1 e1 r1 z1 m1 => ?_
  obtain ⟨rfl, z1⟩ := z1
  refine seqR r1 m1 fun o2 y F2 H2 ρ2 fps2 fp2 e2 r2 z2 m2 => ?_
  obtain ⟨rfl, z2⟩ := z2
  unfold op2 at m2
  cases q1 : resO ρ2 o1 with
  | none => rw [q1] at m2; exact m2.elim
  | some d1 =>
    cases q2 : resO ρ2 o2 with
    | none => rw [q1, q2] at m2; exact m2.elim
    | some d2 =>
      rw [q1, q2] at m2
      dsimp only at m2
      cases q3 : opD d1 d2 with
      | none => rw [q3] at m2; exact m2.elim
      | some d =>
        rw [q3] at m2
        refine pr F2 H2 d1 d2 d x y Q r2.sub (opd_of r2 (z1.mono e2.e1) q1 ka) (opd_of r2 z2 q2 kb) q3 fun v F' H' fp n => ?_
        obtain ⟨x1, x2⟩ := n.go r2
        exact Rem.fin m2 x1 x2 n.1
theorem op1_read {r : V → Hp → VK → Prop} {opD : D → Option D} {Ba : Option Nat} {m1 : M Opn} (pr : Prim1 T.C r opD) (ka : okB G1 Ba = true) (σ : Sl) (H : Hp) (Q : VK) (w : tG T G G1 (rF T.C 0) (eUn opD m1) σ H Q) : tUn r (tG T G G1 (rO T.C Ba) m1) σ H Q := by
  obtain ⟨F, ρ, fps, ex, r0, m0⟩ := w
  refine seqR r0 m0 fun o1 x F1 H1 ρ1 fps1 fp1 e1 r1 z1 m1 => ?_
  obtain ⟨rfl, z1⟩ := z1
  unfold op1 at m1
  cases q1 : resO ρ1 o1 with
  | none => rw [q1] at m1; exact m1.elim
  | some d1 =>
    rw [q1] at m1
    dsimp only at m1
    cases q3 : opD d1 with
    | none => rw [q3] at m1; exact m1.elim
    | some d =>
      rw [q3] at m1
      refine pr F1 H1 d1 d x Q r1.sub (opd_of r1 z1 q1 ka) q3 fun v F' H' fp n => ?_
      obtain ⟨x1, x2⟩ := n.go r1
      exact Rem.fin m1 x1 x2 n.1
theorem test_read {m : M D} (σ : Sl) (H : Hp) (Q : Bool → Hp → Prop) (w : tG T G G' rB (tOf m) σ H Q) : tG T G G' (rF T.C 0) m σ H fun v H1 => ∃ b, v = .bl b ∧ Q b H1 := by
  obtain ⟨F, ρ, fps, ex, r0, m0⟩ := w
  refine seqU r0 m0 (fun a ha => ha) fun d x F1 H1 ρ1 fps1 fp1 e1 r1 z1 m1 => ?_
  cases d with
  | bl b =>
    obtain ⟨rfl, z1⟩ := z1
    have q : x = .bl b := by unfold Rep at z1; exact z1
    exact ⟨b, q, RemU.fin (fp := []) m1 (fun a ha => List.mem_append_left _ (by simpa using ha)) r1 ⟨rfl, rfl⟩⟩
  | non => exact m1.elim
  | int i => exact m1.elim
  | str i => exact m1.elim
  | tup i => exact m1.elim
  | lst i => exact m1.elim
  | dic i j => exact m1.elim
  | dct i j => exact m1.elim
  | obj i j k => exact m1.elim
  | scr i => exact m1.elim
  | rng i j => exact m1.elim
  | tpx i => exact m1.elim
theorem st_cmp {op : CmpOp} {a b : Expr} {pos : Pos} {r : R2} {opD : D → D → Option D} {Ba Bb : Option Nat} {m1 m2 : M Opn} (ho : OpR T.X (compareOp op) r) (pr : Prim2 T.C r opD)
    (ha : SO T G a Ba G1 m1) (hb : SO T G1 b Bb G2 m2) (hm : behindInMarks op b = false) (ka : okB G2 Ba = true := by rfl) (kb : okB G2 Bb = true := by rfl) : ST T G (.Compare a [op] [b] pos) G2 (tOf (eBin opD m1 m2)) :=
  PTimp (pt_cmpR ho ha hb hm) fun σ H Q w => op2_read pr ka kb σ H _ (test_read σ H Q w)
theorem st_isN {a : Expr} {B : Option Nat} {m : M Opn} {j : Nat} {p : Pos} (h : SO T G a B G' m) (k : okB G' B = true := by rfl) : ST T G (.Compare a [.Is] [.Constant .none j p] pos) G' (tOf (eUn isNB m)) :=
  PTimp (pt_cmp (pc_isN h)) fun σ H Q w => op1_read (opD := isNB) prim_isN k σ H _ (test_read σ H Q w)
theorem st_notN {a : Expr} {B : Option Nat} {m : M Opn} {j : Nat} {p : Pos} (h : SO T G a B G' m) (k : okB G' B = true := by rfl) : ST T G (.Compare a [.IsNot] [.Constant .none j p] pos) G' (tOf (eUn isNotNB m)) :=
  PTimp (pt_cmp (pc_notN h)) fun σ H Q w => op1_read (opD := isNotNB) prim_notN k σ H _ (test_read σ H Q w)
end
end DM
end
section
set_option autoImplicit false
set_option Elab.async false
set_option linter.all false
set_option maxRecDepth 100000
set_option maxHeartbeats 4000000
/-! DM32: comprehensions over a list that a name owns. -/
namespace DM
open PySem PySem.Spec PyProof.Rows L2
/-- the walk goes over what the name gi holds -/
def rIG (T : Ct) (G : List Md) (gi : Nat) : RRel (List D × List D) It := fun a σ F H U J fp => fp = [] ∧ a.1.length ≤ sizeLine ∧ ∃ S, Sub S H ∧ (∀ c o, S c = some o → c ∉ U) ∧ ∀ (F' H' : Hp) (k : Nat), Sub S H' → Sub F F' → ∀ σ' ρ' fps' ex', Rel T.C T.pin G F' H' σ' ρ' fps' ex' → σ'[gi]? = σ[gi]? → ρ'[gi]? = some (some (.lst a.2)) →
  (∀ d, a.1[k]? = some d → J.go k H' ∧ ∀ x H2, J.yld k H' x H2 → ItemOk T.C F' H' d x H2) ∧ (a.1.length ≤ k → J.stop k H')
def SIG (T : Ct) (G : List Md) (tg iter : Expr) (G' : List Md) (gi : Nat) (m : M (List D × List D)) : Prop := PI T.X tg iter (tG T G G' (rIG T G' gi) m)
open Classical in
noncomputable def lcGL (vs : List Nat) (gi : Nat) (li : List D) (b : Bd) (mt : M Bool) (me : M D) : List D → List D → DEnv → R (List D)
  | [], acc, ρ => if ρ[gi]? = some (some (.lst li)) then .ok acc ρ else .bad
  | d :: ds, acc, ρ => if ρ[gi]? = some (some (.lst li)) then (match b d ρ with
    | none => .bad
    | some ρ1 => match mt ρ1 with
      | .ok true ρ2 => (match me ρ2 with
        | .ok y ρ3 => lcGL vs gi li b mt me ds (acc ++ [y]) (wipeD ρ3 vs)
        | _ => .bad)
      | .ok false ρ2 => lcGL vs gi li b mt me ds acc (wipeD ρ2 vs)
      | _ => .bad) else .bad
noncomputable def mLcG (vs : List Nat) (gi : Nat) (m : M (List D × List D)) (b : Bd) (mt : M Bool) (me : M D) : M D := bindM m fun p ρ => match lcGL vs gi p.2 b mt me p.1 [] (wipeD ρ vs) with
  | .ok acc ρ' => .ok (.lst acc) (putD ρ vs ρ')
  | _ => .bad
def mOwn (gi : Nat) : M (List D × List D) := fun ρ => match lstOf (ρ[gi]?).join with
  | some l => .ok (l, l) ρ
  | none => .bad
def mZipO (gi : Nat) (m : M Opn) : M (List D × List D) := fun ρ => match lstOf (ρ[gi]?).join with
  | none => .bad
  | some _ => bindM m (fun o ρ => match lstOf (ρ[gi]?).join, (resO ρ o).bind lstD with
    | some l, some l2 => .ok (zipL l l2, l) ρ
    | _, _ => .bad) ρ
section
variable {T : Ct} {S : Gs} {G G1 G2 G' : List Md} {pos : Pos}
/-! ### what is walked -/
end
end DM
end
section
set_option autoImplicit false
set_option Elab.async false
set_option linter.all false
set_option maxRecDepth 100000
set_option maxHeartbeats 4000000
/-! DM33: runs of terms, put together (for the pure part). -/
namespace DM
open PySem L2
section
variable {ρ ρ1 ρ2 ρ3 : DEnv} {d d1 d2 d' : D} {f : M D} {m1 m2 : M Opn} {o o1 o2 : Opn}
theorem ok_val (h : f ρ = .ok d ρ1) : oVal f ρ = .ok (.val d) ρ1 := by simp [oVal, bindM, h, retM]
theorem ok_bor {i : Nat} (h : (ρ[i]?).join = some d) : oB i ρ = .ok (.bor i) ρ := by simp [oB, h]
theorem ok_bin {op : D → D → Option D} (h1 : m1 ρ = .ok o1 ρ1) (h2 : m2 ρ1 = .ok o2 ρ2) (r1 : resO ρ2 o1 = some d1) (r2 : resO ρ2 o2 = some d2) (h : op d1 d2 = some d) : eBin op m1 m2 ρ = .ok d ρ2 := by
  simp [eBin, bindM, h1, h2, op2, r1, r2, h]
theorem ok_bt {op : List D → Option D} {m : M (List Opn)} {os : List Opn} {ds : List D} (h1 : m ρ = .ok os ρ1) (r1 : resL ρ1 os = some ds) (h : op ds = some d) : eBt op m ρ = .ok d ρ1 := by
  simp [eBt, bindM, h1, opN, r1, h]
theorem ok_nil {α : Type} {a : α} : retM a ρ = .ok a ρ := rfl
theorem ok_cons {m : M Opn} {ms : M (List Opn)} {os : List Opn} (h1 : m ρ = .ok o ρ1) (h2 : ms ρ1 = .ok os ρ2) : mCons m ms ρ = .ok (o :: os) ρ2 := by simp [mCons, bindM, h1, h2, retM]
theorem ok_xcons {m : M (List D)} {ds : List D} (h1 : f ρ = .ok d ρ1) (h2 : m ρ1 = .ok ds ρ2) : xCons f m ρ = .ok (d :: ds) ρ2 := by simp [xCons, bindM, h1, h2, retM]
theorem ok_asg {i : Nat} (h : f ρ = .ok d ρ1) : sAsg i f ρ = .ok .nx (ρ1.set i (some d)) := by simp [sAsg, bindM, h]
theorem ok_ret (h : f ρ = .ok d ρ1) : sRet f ρ = .ok (.rt d) ρ1 := by simp [sRet, bindM, h, retM]
theorem seq_nx {a b : M Fl} (h : a ρ = .ok .nx ρ1) : sSeq a b ρ = b ρ1 := by simp [sSeq, bindM, h]
theorem seq_rt {a b : M Fl} (h : a ρ = .ok (.rt d) ρ1) : sSeq a b ρ = .ok (.rt d) ρ1 := by simp [sSeq, bindM, retM, h]
theorem call_io {g : Sig} {i j : Nat} {m : M (List Opn)} {os : List Opn} {ds : List D} {outs : DEnv} (h1 : m ρ = .ok os ρ1) (h2 : resL ρ1 os = some ds) (h3 : g.m ds = .ok d outs) (h4 : (outs[j]?).join = some d') : callM g (some (j, i)) m ρ = .ok d (ρ1.set i (some d')) := by
  simp [callM, bindM, h1, callB, h2, h3, backR, h4]
theorem run_rt {n : Nat} {ms : List Md} {s : M Fl} {ds : List D} (h : s (ds.map some ++ List.replicate (n - ds.length) none) = .ok (.rt d) ρ1) : runF n ms s ds = .ok d (outsF ms ρ1) := by
  unfold runF; rw [h]; rfl
theorem run_is {n : Nat} {ms : List Md} {s : M Fl} {ds : List D} {ρ0 outs : DEnv} (h0 : ds.map some ++ List.replicate (n - ds.length) none = ρ0) (h : s ρ0 = .ok (.rt d) ρ1) (h1 : outsF ms ρ1 = outs) : runF n ms s ds = .ok d outs := by
  subst h0 h1; exact run_rt h
theorem mut_is {i : Nat} {op : List D → List D → Option (D × List D)} {m : M (List D)} {args l0 l l' : List D} (h0 : lstOf (ρ[i]?).join = some l0) (h1 : m ρ = .ok args ρ1) (h2 : lstOf (ρ1[i]?).join = some l) (h3 : op l args = some (d, l')) : callMut i op m ρ = .ok d (ρ1.set i (some (.lst l'))) := by
  simp [callMut, h0, bindM, h1, h2, h3]
theorem lc_is {vs : List Nat} {m : M (List D)} {b : Bd} {mt : M Bool} {me : M D} {ds acc : List D} (h1 : m ρ = .ok ds ρ1) (h2 : lcL vs b mt me ds [] (wipeD ρ1 vs) = .ok acc ρ2) : mLc vs m b mt me ρ = .ok (.lst acc) (putD ρ1 vs ρ2) := by
  simp [mLc, bindM, h1, h2]
theorem atI_ofNat {α : Type} {l : List α} {r : Int} (h0 : 0 ≤ r) (h1 : r < l.length) : atI l r = l[r.toNat]? := by
  obtain ⟨n, rfl⟩ := Int.eq_ofNat_of_zero_le h0
  have hn : n < l.length := by omega
  rw [List.getElem?_eq_getElem (by simpa using hn)]
  exact atI_nat (j := n) (List.getElem?_eq_getElem hn)
end
end DM
end
section
set_option autoImplicit false
set_option Elab.async false
set_option linter.all false
set_option maxRecDepth 100000
set_option maxHeartbeats 4000000
/-! DM34: what a run of terms ends with, rule by rule (for the pure part). -/
namespace DM
open PySem L2
abbrev ExK := String → List Str → List D → DEnv → Prop
def NoE : ExK := fun _ _ _ _ => False
@[irreducible] def We {α : Type} (r : R α) (Q : α → DEnv → Prop) (E : ExK) : Prop := match r with
  | .ok a ρ => Q a ρ
  | .ex c ns vs ρ => E c ns vs ρ
  | .bad => False
def fl (N : DEnv → Prop) (T : D → DEnv → Prop) (B C : DEnv → Prop) : Fl → DEnv → Prop
  | .nx, ρ => N ρ
  | .rt d, ρ => T d ρ
  | .bk, ρ => B ρ
  | .ct, ρ => C ρ
/-- there is one, and it is good -/
def Sm {α : Type} (x : Option α) (Q : α → Prop) : Prop := ∃ a, x = some a ∧ Q a
theorem Sm.mk {α : Type} {x : Option α} {Q : α → Prop} {a : α} (h : x = some a) (k : Q a) : Sm x Q := ⟨a, h, k⟩
/-- a branch -/
def Br (x : Bool) (p q : Prop) : Prop := (x = true → p) ∧ (x = false → q)
theorem Br.mk {x : Bool} {p q : Prop} (h : x = true → p) (k : x = false → q) : Br x p q := ⟨h, k⟩
theorem Br.t {p q : Prop} (h : p) : Br true p q := ⟨fun _ => h, fun e => nomatch e⟩
theorem Br.f {p q : Prop} (h : q) : Br false p q := ⟨fun e => (nomatch e), fun _ => h⟩
theorem Br.of_t {x : Bool} {p q : Prop} (e : x = true) (h : p) : Br x p q := by subst e; exact Br.t h
theorem Br.of_f {x : Bool} {p q : Prop} (e : x = false) (h : q) : Br x p q := by subst e; exact Br.f h
/-- a truth value -/
def IsB (d : D) (Q : Bool → Prop) : Prop := ∃ b, d = .bl b ∧ Q b
theorem IsB.mk {b : Bool} {Q : Bool → Prop} (h : Q b) : IsB (.bl b) Q := ⟨b, rfl, h⟩
def IsI (d : D) (Q : Int → Prop) : Prop := ∃ b, d = .int b ∧ Q b
theorem IsI.mk {b : Int} {Q : Int → Prop} (h : Q b) : IsI (.int b) Q := ⟨b, rfl, h⟩
def Tr (b : Bool) (p : Prop) : Prop := b = true ∧ p
theorem Tr.mk {b : Bool} {p : Prop} (h : b = true) (k : p) : Tr b p := ⟨h, k⟩
def IsN (d : D) (p : Prop) : Prop := d = .non ∧ p
theorem IsN.mk {p : Prop} (k : p) : IsN .non p := ⟨rfl, k⟩
/-- the names behind a change -/
def Upd (x : DEnv) (N : DEnv → Prop) : Prop := ∀ y, x = y → N y
theorem Upd.mk {x : DEnv} {N : DEnv → Prop} (h : ∀ y, x = y → N y) : Upd x N := h
section
variable {α β : Type} {ρ ρ1 ρ2 ρw : DEnv} {Q Q' : α → DEnv → Prop} {E E' : ExK} {N N' : DEnv → Prop} {T T' : D → DEnv → Prop} {B B' C C' : DEnv → Prop} {d : D}
theorem We.ok {a : α} (q : Q a ρ) : We (.ok a ρ) Q E := by unfold We; exact q
theorem We.okE {a : α} (q : We (.ok a ρ) Q E) : Q a ρ := by unfold We at q; exact q
theorem We.exI {c : String} {ns : List Str} {vs : List D} (q : E c ns vs ρ) : We (α := α) (.ex c ns vs ρ) Q E := by unfold We; exact q
theorem We.exE {c : String} {ns : List Str} {vs : List D} (q : We (α := α) (.ex c ns vs ρ) Q E) : E c ns vs ρ := by unfold We at q; exact q
theorem We.badE (q : We (α := α) .bad Q E) : False := by unfold We at q; exact q
theorem We.of_eq {r : R α} {a : α} (h : r = .ok a ρ) (q : Q a ρ) : We r Q E := by subst h; exact We.ok q
theorem We.imp {r : R α} (h : We r Q E) (hq : ∀ a ρ, Q a ρ → Q' a ρ) (he : ∀ c ns vs ρ, E c ns vs ρ → E' c ns vs ρ) : We r Q' E' := by
  cases r with
  | ok a ρ => exact We.ok (hq _ _ (We.okE h))
  | ex c ns vs ρ => exact We.exI (he _ _ _ _ (We.exE h))
  | bad => exact (We.badE h).elim
theorem We.mono {r : R α} (h : We r Q E) (hq : ∀ a ρ, Q a ρ → Q' a ρ) : We r Q' E := h.imp hq fun _ _ _ _ z => z
theorem We.ex {r : R α} (h : We r Q NoE) : ∃ a ρ, r = .ok a ρ ∧ Q a ρ := by
  cases r with
  | ok a ρ => exact ⟨a, ρ, rfl, We.okE h⟩
  | ex c ns vs ρ => exact (We.exE h).elim
  | bad => exact (We.badE h).elim
theorem We.eq {r : R α} {a : α} (h : We r (fun b ρ' => b = a ∧ ρ' = ρ) NoE) : r = .ok a ρ := by
  obtain ⟨b, ρ', e, rfl, rfl⟩ := h.ex; exact e
theorem We.use {r : R α} (h : We r Q NoE) (hq : ∀ a ρ, Q a ρ → Q' a ρ) : We r Q' E := h.imp hq fun _ _ _ _ z => z.elim
theorem W_bind {f : M α} {g : α → M β} {Q : β → DEnv → Prop} (h : We (f ρ) (fun a ρ1 => We (g a ρ1) Q E) E) : We (bindM f g ρ) Q E := by
  unfold bindM
  cases q : f ρ with
  | ok a ρ1 => rw [q] at h; exact We.okE h
  | ex c ns vs ρ1 => rw [q] at h; exact We.exI (We.exE h)
  | bad => rw [q] at h; exact (We.badE h).elim
theorem W_ret {a : α} (h : Q a ρ) : We (retM a ρ) Q E := We.ok h
/-! ### statements -/
theorem W_nx (h : N ρ) : We (retM Fl.nx ρ) (fl N T B C) E := We.ok h
theorem W_seq {a b : M Fl} (h : We (a ρ) (fl (fun ρ1 => We (b ρ1) (fl N T B C) E) T B C) E) : We (sSeq a b ρ) (fl N T B C) E := by
  unfold sSeq
  refine W_bind (h.mono fun f ρ1 z => ?_)
  cases f with
  | nx => exact z
  | bk => exact We.ok z
  | ct => exact We.ok z
  | rt d => exact We.ok z
/-- what holds in between, told -/
theorem W_seqI {a b : M Fl} (mid : DEnv → Prop) (h : We (a ρ) (fl mid T B C) E) (k : ∀ ρ1, mid ρ1 → We (b ρ1) (fl N T B C) E) : We (sSeq a b ρ) (fl N T B C) E :=
  W_seq (h.mono fun f ρ1 z => by
    cases f with
    | nx => exact k ρ1 z
    | rt d => exact z
    | bk => exact z
    | ct => exact z)
theorem isSeqIf {c : M Bool} {a b r : M Fl} {Q : Fl → DEnv → Prop} (h : We (sSeq (sIf c a b) r ρ) Q E) : We (sSeq (sIf c a b) r ρ) Q E := h
theorem W_asg {i : Nat} {m : M D} (h : We (m ρ) (fun d ρ1 => Upd (ρ1.set i (some d)) N) E) : We (sAsg i m ρ) (fl N T B C) E := W_bind (h.mono fun d ρ1 z => We.ok (z _ rfl))
theorem W_expr {m : M D} (h : We (m ρ) (fun _ ρ1 => N ρ1) E) : We (sExpr m ρ) (fl N T B C) E := W_bind (h.mono fun d ρ1 z => We.ok z)
theorem W_rt {m : M D} (h : We (m ρ) T E) : We (sRet m ρ) (fl N T B C) E := W_bind (h.mono fun d ρ1 z => We.ok z)
theorem W_if {c : M Bool} {a b : M Fl} {Q : Fl → DEnv → Prop} (h : We (c ρ) (fun x ρ1 => Br x (We (a ρ1) Q E) (We (b ρ1) Q E)) E) : We (sIf c a b ρ) Q E := W_bind (h.mono fun x ρ1 z => by
  cases x with
  | true => exact z.1 rfl
  | false => exact z.2 rfl)
theorem W_setL {is : List Nat} {m : M (List D)} (h : We (m ρ) (fun ds ρ1 => Upd (setL is (ds.map some) ρ1) N) E) : We (sSetL is m ρ) (fl N T B C) E := W_bind (h.mono fun d ρ1 z => We.ok (z _ rfl))
theorem W_dput {i n : Nat} {mv mk : M D} (h : We (mv ρ) (fun v ρ1 => Sm (ρ1[i]?).join fun _ => We (mk ρ1) (fun k ρ2 => Sm (ρ2[i]?).join fun d => Tr (n == 0 || scalD v) (Sm (dputD d k v) fun d' => Upd (ρ2.set i (some d')) N)) E) E) : We (sDput i n mv mk ρ) (fl N T B C) E :=
  W_bind (h.mono fun v ρ1 ⟨d0, e, z⟩ => by
    (try dsimp only); rw [e]
    refine W_bind (z.mono fun k ρ2 ⟨d, e1, e2, d', e3, z⟩ => ?_)
    (try dsimp only); rw [e1]; (try dsimp only); rw [if_pos e2, e3]; exact We.ok (z _ rfl))
theorem W_fldPut {i : Nat} {c : String} {f : Str} {mv : M D} (h : We (mv ρ) (fun v ρ1 => Sm (ρ1[i]?).join fun d => Sm (fldPut c f d v) fun d' => Upd (ρ1.set i (some d')) N) E) : We (sFldPut i c f mv ρ) (fl N T B C) E :=
  W_bind (h.mono fun v ρ1 ⟨d, e1, d', e2, z⟩ => by
    (try dsimp only); rw [e1, Option.bind_some, e2]; exact We.ok (z _ rfl))
theorem W_put2 {i : Nat} {c : String} {f : Str} {mv : M D} {fk1 fk2 : DEnv → Option D} (h : We (mv ρ) (fun v ρ1 => Sm (ρ1[i]?).join fun d => Sm (fk1 ρ1) fun k1 => Sm (fk2 ρ1) fun k2 => Sm (put2D c f d k1 k2 v) fun d' => Upd (ρ1.set i (some d')) N) E) : We (sPut2 i c f mv fk1 fk2 ρ) (fl N T B C) E :=
  W_bind (h.mono fun v ρ1 ⟨d, e1, k1, e2, k2, e3, d', e4, z⟩ => by
    (try dsimp only); rw [e1, Option.bind_some, e2, Option.bind_some, e3, Option.bind_some, e4]; exact We.ok (z _ rfl))
theorem W_aug {i : Nat} {f : Int → Int → Int} {m : M D} (h : Sm (ρ[i]?).join fun d0 => We (m ρ) (fun e ρ1 => Sm (intD (fun i j => some (f i j)) d0 e) fun d' => Upd (ρ1.set i (some d')) N) E) : We (sAug i f m ρ) (fl N T B C) E := by
  obtain ⟨d0, e, h⟩ := h
  unfold sAug
  rw [e]
  refine W_bind (h.mono fun v ρ1 ⟨d', e1, z⟩ => ?_)
  (try dsimp only); rw [e1]; exact We.ok (z _ rfl)
/-- a for by what stays true -/
theorem W_forL {b : Bd} {body : M Fl} {f : α → D} (l : List α) (I : List α → DEnv → Prop) (h0 : I [] ρ) (hs : ∀ done x rest ρ, l = done ++ x :: rest → I done ρ → Sm (b (f x) ρ) fun ρ1 => Upd ρ1 fun ρ1 => We (body ρ1) (fl (I (done ++ [x])) T N (I (done ++ [x]))) E) (hn : ∀ ρ, I l ρ → N ρ) :
    We (forL b body (l.map f) ρ) (fl N T B C) E := by
  suffices H : ∀ (rest done : List α) (ρ : DEnv), l = done ++ rest → I done ρ → We (forL b body (rest.map f) ρ) (fl N T B C) E from H l [] ρ rfl h0
  intro rest
  induction rest with
  | nil => intro done ρ e hi; rw [List.append_nil] at e; subst e; exact We.ok (hn ρ hi)
  | cons x rest ih =>
    intro done ρ e hi
    obtain ⟨ρ1, e1, z⟩ := hs done x rest ρ e hi
    have z : We (body ρ1) (fl (I (done ++ [x])) T N (I (done ++ [x]))) E := z ρ1 rfl
    rw [List.map_cons, forL]
    have nx : ∀ ρ2, I (done ++ [x]) ρ2 → We (forL b body (rest.map f) ρ2) (fl N T B C) E := fun ρ2 k => ih (done ++ [x]) ρ2 (by rw [e]; simp) k
    cases q : body ρ1 with
    | ok g ρ2 =>
      rw [q] at z
      cases g with
      | nx => simp only [e1, q]; have zz := We.okE z; exact nx ρ2 zz
      | ct => simp only [e1, q]; have zz := We.okE z; exact nx ρ2 zz
      | bk => simp only [e1, q]; have zz := We.okE z; exact We.ok zz
      | rt d => simp only [e1, q]; have zz := We.okE z; exact We.ok zz
    | ex c ns vs ρ2 => rw [q] at z; simp only [e1, q]; exact We.exI (We.exE z)
    | bad => rw [q] at z; exact (We.badE z).elim
theorem W_forN {b : Bd} {body : M Fl} (h : N ρ) : We (forL b body [] ρ) (fl N T B C) E := We.ok h
/-- a for over a row that is written out -/
theorem W_forC {b : Bd} {body : M Fl} {ds : List D} (h : Sm (b d ρ) fun ρ1 => Upd ρ1 fun ρ1 => We (body ρ1) (fl (fun ρ2 => We (forL b body ds ρ2) (fl N T B C) E) T N (fun ρ2 => We (forL b body ds ρ2) (fl N T B C) E)) E) : We (forL b body (d :: ds) ρ) (fl N T B C) E := by
  obtain ⟨ρ1, e1, z⟩ := h
  have z : We (body ρ1) (fl (fun ρ2 => We (forL b body ds ρ2) (fl N T B C) E) T N (fun ρ2 => We (forL b body ds ρ2) (fl N T B C) E)) E := z ρ1 rfl
  rw [forL]
  cases q : body ρ1 with
  | ok g ρ2 =>
    rw [q] at z
    cases g with
    | nx => simp only [e1, q]; have zz := We.okE z; exact zz
    | ct => simp only [e1, q]; have zz := We.okE z; exact zz
    | bk => simp only [e1, q]; have zz := We.okE z; exact We.ok zz
    | rt d => simp only [e1, q]; have zz := We.okE z; exact We.ok zz
  | ex c ns vs ρ2 => rw [q] at z; simp only [e1, q]; exact We.exI (We.exE z)
  | bad => rw [q] at z; exact (We.badE z).elim
theorem W_for {m : M (List D)} {b : Bd} {body : M Fl} (h : We (m ρ) (fun ds ρ1 => We (forL b body ds ρ1) (fl N T B C) E) E) : We (sFor m b body ρ) (fl N T B C) E := W_bind h
/-- a while by what stays true and a measure -/
theorem W_while {c : M Bool} {body : M Fl} (I : Nat → DEnv → Prop) (n : Nat) (h0 : I n ρ) (hs : ∀ n ρ, I n ρ → We (c ρ) (fun x ρ1 => Br x (We (body ρ1) (fl (fun ρ2 => ∃ m, m < n ∧ I m ρ2) T N (fun ρ2 => ∃ m, m < n ∧ I m ρ2)) NoE) (N ρ1)) NoE) : We (sWhile c body ρ) (fl N T B C) E := by
  suffices H : ∀ (n : Nat) (ρ : DEnv), I n ρ → ∃ (k : Nat) (g : Fl) (ρ2 : DEnv), whileL c body k ρ = .ok g ρ2 ∧ fl N T B C g ρ2 by
    obtain ⟨k, g, ρ2, e, z⟩ := H n ρ h0
    exact We.of_eq (sWhile_of e (by simp)) z
  intro n
  induction n using Nat.strongRecOn with
  | ind n ih =>
    intro ρ hi
    obtain ⟨x, ρ1, e1, z1, z2⟩ := (hs n ρ hi).ex
    cases x with
    | false => exact ⟨1, .nx, ρ1, by unfold whileL; rw [e1], z2 rfl⟩
    | true =>
      obtain ⟨g, ρ2, e2, z⟩ := (z1 rfl).ex
      cases g with
      | nx =>
        obtain ⟨m, hm, hi2⟩ := z
        obtain ⟨k, g, ρ3, e3, z3⟩ := ih m hm ρ2 hi2
        exact ⟨k + 1, g, ρ3, by unfold whileL; rw [e1]; simp only [e2]; exact e3, z3⟩
      | ct =>
        obtain ⟨m, hm, hi2⟩ := z
        obtain ⟨k, g, ρ3, e3, z3⟩ := ih m hm ρ2 hi2
        exact ⟨k + 1, g, ρ3, by unfold whileL; rw [e1]; simp only [e2]; exact e3, z3⟩
      | bk => exact ⟨1, .nx, ρ2, by unfold whileL; rw [e1]; simp only [e2], z⟩
      | rt d => exact ⟨1, .rt d, ρ2, by unfold whileL; rw [e1]; simp only [e2], z⟩
/-- a def -/
theorem W_run {n : Nat} {ms : List Md} {s : M Fl} {ds : List D} {Q : D → DEnv → Prop} (h : ∀ ρ0, ds.map some ++ List.replicate (n - ds.length) none = ρ0 → We (s ρ0) (fl (fun ρ => Q .non (outsF ms ρ)) (fun d ρ => Q d (outsF ms ρ)) (fun _ => False) (fun _ => False)) (fun c ns vs ρ => E c ns vs (outsF ms ρ))) : We (runF n ms s ds) Q E := by
  have h := h _ rfl
  unfold runF finF
  revert h
  cases s (ds.map some ++ List.replicate (n - ds.length) none) with
  | ok g ρ =>
    intro h
    have h := We.okE h
    cases g with
    | nx => exact We.ok h
    | rt d => exact We.ok h
    | bk => exact h.elim
    | ct => exact h.elim
  | ex c ns vs ρ => intro h; have zz := We.exE h; exact We.exI zz
  | bad => exact fun h => (We.badE h).elim
/-- the names at the start of a def -/
def Ent (x : DEnv) (N : DEnv → Prop) : Prop := ∀ y, x = y → N y
theorem Ent.mk {x : DEnv} {N : DEnv → Prop} (h : ∀ y, x = y → N y) : Ent x N := h
theorem W_def {g : Sig} {n : Nat} {ms : List Md} {rk : Option Nat} {ds : List D} {Q : D → DEnv → Prop} (s : M Fl) (hg : g = ⟨ms, rk, runF n ms s⟩) (h : Ent (ds.map some ++ List.replicate (n - ds.length) none) fun ρ0 => We (s ρ0) (fl (fun ρ => Upd (outsF ms ρ) (Q .non)) (fun d ρ => Upd (outsF ms ρ) (Q d)) (fun _ => False) (fun _ => False)) NoE) : We (g.m ds) Q NoE := by
  subst hg
  refine W_run fun ρ0 h0 => ?_
  refine (h ρ0 h0).imp (fun f ρ z => ?_) fun _ _ _ _ z => z
  cases f with
  | nx => exact z _ rfl
  | rt d => exact z _ rfl
  | bk => exact z
  | ct => exact z
/-! ### expressions -/
theorem W_oB {i : Nat} {Q : Opn → DEnv → Prop} (h : (ρ[i]?).join = some d) (k : Q (.bor i) ρ) : We (oB i ρ) Q E := by unfold oB; rw [h]; exact We.ok k
theorem W_eV {i : Nat} {Q : D → DEnv → Prop} (h : (ρ[i]?).join = some d) (k : Q d ρ) : We (eV i ρ) Q E := by unfold eV; rw [h]; exact We.ok k
theorem W_mov {i : Nat} {Q : D → DEnv → Prop} (h : (ρ[i]?).join = some d) (k : Upd (ρ.set i none) (Q d)) : We (eMov i ρ) Q E := by unfold eMov; rw [h]; exact We.ok (k _ rfl)
theorem W_val {m : M D} {Q : Opn → DEnv → Prop} (h : We (m ρ) (fun d ρ1 => Q (.val d) ρ1) E) : We (oVal m ρ) Q E := W_bind (h.mono fun _ _ z => We.ok z)
theorem W_con {Q : D → DEnv → Prop} (h : Q d ρ) : We (eC d ρ) Q E := We.ok h
theorem W_bin {op : D → D → Option D} {m1 m2 : M Opn} {Q : D → DEnv → Prop} (h : We (m1 ρ) (fun o1 ρ1 => We (m2 ρ1) (fun o2 ρ2 => Sm (resO ρ2 o1) fun d1 => Sm (resO ρ2 o2) fun d2 => Sm (op d1 d2) fun d => Q d ρ2) E) E) : We (eBin op m1 m2 ρ) Q E :=
  W_bind (h.mono fun o1 ρ1 z => W_bind (z.mono fun o2 ρ2 ⟨d1, e1, d2, e2, d, e3, z⟩ => by unfold op2; rw [e1, e2]; (try dsimp only); rw [e3]; exact We.ok z))
theorem W_un {op : D → Option D} {m1 : M Opn} {Q : D → DEnv → Prop} (h : We (m1 ρ) (fun o1 ρ1 => Sm (resO ρ1 o1) fun d1 => Sm (op d1) fun d => Q d ρ1) E) : We (eUn op m1 ρ) Q E :=
  W_bind (h.mono fun o1 ρ1 ⟨d1, e1, d, e3, z⟩ => by unfold op1; rw [e1]; (try dsimp only); rw [e3]; exact We.ok z)
theorem W_bt {op : List D → Option D} {m : M (List Opn)} {Q : D → DEnv → Prop} (h : We (m ρ) (fun os ρ1 => Sm (resL ρ1 os) fun ds => Sm (op ds) fun d => Q d ρ1) E) : We (eBt op m ρ) Q E :=
  W_bind (h.mono fun o1 ρ1 ⟨d1, e1, d, e3, z⟩ => by unfold opN; rw [e1]; (try dsimp only); rw [e3]; exact We.ok z)
theorem W_uns {op : D → Option D} {m1 : M Opn} {Q : D → DEnv → Prop} (h : We (m1 ρ) (fun o1 ρ1 => Sm (resO ρ1 o1) fun d1 => Sm (op d1) fun d => Q d ρ1) E) : We (mUn op m1 ρ) Q E :=
  W_bind (h.mono fun o1 ρ1 ⟨d1, e1, d, e3, z⟩ => by (try dsimp only); rw [e1, Option.bind_some, e3]; exact We.ok z)
theorem W_isi {op : D → Option D} {m1 : M Opn} {Q : D → DEnv → Prop} (h : We (m1 ρ) (fun o1 ρ1 => Sm (resO ρ1 o1) fun d1 => Sm (op d1) fun d => Q d ρ1) E) : We (mIsi op m1 ρ) Q E :=
  W_bind (h.mono fun o1 ρ1 ⟨d1, e1, d, e3, z⟩ => by (try dsimp only); rw [e1, Option.bind_some, e3]; exact We.ok z)
theorem W_nil {Q : List α → DEnv → Prop} (h : Q [] ρ) : We (retM [] ρ) Q E := We.ok h
theorem W_mcons {m : M Opn} {ms : M (List Opn)} {Q : List Opn → DEnv → Prop} (h : We (m ρ) (fun o ρ1 => We (ms ρ1) (fun os ρ2 => Q (o :: os) ρ2) E) E) : We (mCons m ms ρ) Q E := W_bind (h.mono fun o ρ1 z => W_bind (z.mono fun _ _ z => We.ok z))
theorem W_xcons {m : M D} {ms : M (List D)} {Q : List D → DEnv → Prop} (h : We (m ρ) (fun o ρ1 => We (ms ρ1) (fun os ρ2 => Q (o :: os) ρ2) E) E) : We (xCons m ms ρ) Q E := W_bind (h.mono fun o ρ1 z => W_bind (z.mono fun _ _ z => We.ok z))
theorem W_pcons {f g : M D} {ms : M (List (D × D))} {Q : List (D × D) → DEnv → Prop} (h : We (f ρ) (fun k ρ1 => We (g ρ1) (fun d ρ2 => We (ms ρ2) (fun ds ρ3 => Q ((k, d) :: ds) ρ3) E) E) E) : We (pCons f g ms ρ) Q E := W_bind (h.mono fun o ρ1 z => W_bind (z.mono fun _ _ z => W_bind (z.mono fun _ _ z => We.ok z)))
theorem W_lst {m : M (List D)} {Q : D → DEnv → Prop} (h : We (m ρ) (fun ds ρ1 => Q (.lst ds) ρ1) E) : We (eLst m ρ) Q E := W_bind (h.mono fun _ _ z => We.ok z)
theorem W_tup {m : M (List D)} {Q : D → DEnv → Prop} (h : We (m ρ) (fun ds ρ1 => Q (.tup ds) ρ1) E) : We (eTup m ρ) Q E := W_bind (h.mono fun _ _ z => We.ok z)
theorem W_disp {m : M (List (D × D))} {Q : D → DEnv → Prop} (h : We (m ρ) (fun ds ρ1 => Sm (keysOf (ds.map (·.1))) fun ks => Tr (decide ks.Nodup) (Q (.dic ks (ds.map (·.2))) ρ1)) E) : We (eDisp m ρ) Q E :=
  W_bind (h.mono fun ds ρ1 ⟨ks, e, n, z⟩ => by (try dsimp only); rw [e]; (try dsimp only); rw [if_pos (of_decide_eq_true n)]; exact We.ok z)
theorem W_tOf {m : M D} {Q : Bool → DEnv → Prop} (h : We (m ρ) (fun d ρ1 => IsB d fun b => Q b ρ1) E) : We (tOf m ρ) Q E := W_bind (h.mono fun d ρ1 ⟨b, e, z⟩ => by subst e; exact We.ok z)
theorem W_and {a b : M Bool} {Q : Bool → DEnv → Prop} (h : We (a ρ) (fun x ρ1 => Br x (We (b ρ1) Q E) (Q false ρ1)) E) : We (mAnd a b ρ) Q E := W_bind (h.mono fun x ρ1 z => by
  cases x with
  | true => exact z.1 rfl
  | false => exact We.ok (z.2 rfl))
theorem W_or {a b : M Bool} {Q : Bool → DEnv → Prop} (h : We (a ρ) (fun x ρ1 => Br x (Q true ρ1) (We (b ρ1) Q E)) E) : We (mOr a b ρ) Q E := W_bind (h.mono fun x ρ1 z => by
  cases x with
  | true => exact We.ok (z.1 rfl)
  | false => exact z.2 rfl)
theorem W_not {a : M Bool} {Q : Bool → DEnv → Prop} (h : We (a ρ) (fun x ρ1 => Q (!x) ρ1) E) : We (mNot a ρ) Q E := W_bind (h.mono fun _ _ z => We.ok z)
theorem W_eOr {f g : M D} {Q : D → DEnv → Prop} (h : We (f ρ) (fun d ρ1 => Sm (truD d) fun b => Br b (Q d ρ1) (We (g ρ1) Q E)) E) : We (eOr f g ρ) Q E := W_bind (h.mono fun d ρ1 ⟨b, e, z1, z2⟩ => by
  (try dsimp only); rw [e]
  cases b with
  | true => exact We.ok (z1 rfl)
  | false => exact z2 rfl)
theorem W_eAnd {f g : M D} {Q : D → DEnv → Prop} (h : We (f ρ) (fun d ρ1 => Sm (truD d) fun b => Br b (We (g ρ1) Q E) (Q d ρ1)) E) : We (eAnd f g ρ) Q E := W_bind (h.mono fun d ρ1 ⟨b, e, z1, z2⟩ => by
  (try dsimp only); rw [e]
  cases b with
  | true => exact z1 rfl
  | false => exact We.ok (z2 rfl))
theorem W_eIf {c : M Bool} {f g : M D} {Q : D → DEnv → Prop} (h : We (c ρ) (fun x ρ1 => Br x (We (f ρ1) Q E) (We (g ρ1) Q E)) E) : We (eIf c f g ρ) Q E := W_bind (h.mono fun x ρ1 z => by
  cases x with
  | true => exact z.1 rfl
  | false => exact z.2 rfl)
theorem W_plain {m : M D} {Q : D → DEnv → Prop} (h : We (m ρ) (fun d ρ1 => Tr (scalD d) (Q d ρ1)) E) : We (mPlain m ρ) Q E := W_bind (h.mono fun d ρ1 z => by (try dsimp only); rw [if_pos z.1]; exact We.ok z.2)
theorem W_shal {m : M D} {Q : D → DEnv → Prop} (h : We (m ρ) (fun d ρ1 => Tr (shal d) (Q d ρ1)) E) : We (mShal m ρ) Q E := W_bind (h.mono fun d ρ1 z => by (try dsimp only); rw [if_pos z.1]; exact We.ok z.2)
theorem W_part {m : M D} {Q : Option Int → DEnv → Prop} (h : We (m ρ) (fun d ρ1 => IsI d fun i => Q (some i) ρ1) E) : We (mPart m ρ) Q E := W_bind (h.mono fun d ρ1 ⟨i, e, z⟩ => by subst e; exact We.ok z)
theorem W_slice {m : M Opn} {a b : M (Option Int)} {Q : D → DEnv → Prop} (h : We (m ρ) (fun o ρ1 => We (a ρ1) (fun lo ρ2 => We (b ρ2) (fun hi ρ3 => Sm (resO ρ3 o) fun d1 => Sm (sliceD lo hi d1) fun d => Q d ρ3) E) E) E) : We (eSlice m a b ρ) Q E :=
  W_bind (h.mono fun o ρ1 z => W_bind (z.mono fun lo ρ2 z => W_bind (z.mono fun hi ρ3 ⟨d1, e1, d, e2, z⟩ => by unfold op1; rw [e1]; (try dsimp only); rw [e2]; exact We.ok z)))
theorem W_rng {m : M (List D)} {Q : D → DEnv → Prop} (h : We (m ρ) (fun ds ρ1 => Sm (d2 ds) fun p => Q (.rng p.1 p.2) ρ1) E) : We (eRng m ρ) Q E := W_bind (h.mono fun ds ρ1 ⟨p, e, z⟩ => by (try dsimp only); rw [e]; exact We.ok z)
/-! ### calls -/
theorem W_call {g : Sig} {m : M (List Opn)} {Q : D → DEnv → Prop} (h : We (m ρ) (fun os ρ1 => Sm (resL ρ1 os) fun ds => We (g.m ds) (fun d _ => Q d ρ1) (fun c ns vs _ => E c ns vs ρ1)) E) : We (callM g none m ρ) Q E :=
  W_bind (h.mono fun os ρ1 ⟨ds, e, z⟩ => by
    unfold callB; rw [e]; (try dsimp only)
    revert z
    cases g.m ds with
    | ok d ρo => intro z; have zz := We.okE z; exact We.ok zz
    | ex c ns vs ρo => intro z; have zz := We.exE z; exact We.exI zz
    | bad => exact fun z => (We.badE z).elim)
theorem W_callIo {g : Sig} {i j : Nat} {m : M (List Opn)} {Q : D → DEnv → Prop} (h : We (m ρ) (fun os ρ1 => Sm (resL ρ1 os) fun ds => We (g.m ds) (fun d ρo => Sm (ρo[j]?).join fun d' => Upd (ρ1.set i (some d')) (Q d)) (fun c ns vs ρo => Sm (ρo[j]?).join fun d' => E c ns vs (ρ1.set i (some d')))) E) : We (callM g (some (j, i)) m ρ) Q E :=
  W_bind (h.mono fun os ρ1 ⟨ds, e, z⟩ => by
    unfold callB; rw [e]; (try dsimp only)
    revert z
    cases g.m ds with
    | ok d ρo => intro z; obtain ⟨d', e, z⟩ := We.okE z; show We (match (ρo[j]?).join with | some d' => R.ok d (ρ1.set i (some d')) | none => .bad) Q E; rw [e]; exact We.ok (z _ rfl)
    | ex c ns vs ρo => intro z; obtain ⟨d', e, z⟩ := We.exE z; show We (match (ρo[j]?).join with | some d' => R.ex c ns vs (ρ1.set i (some d')) | none => .bad) Q E; rw [e]; exact We.exI z
    | bad => exact fun z => (We.badE z).elim)
theorem W_meth {c : String} {f : Str} {g : Sig} {mo : M Opn} {ma : M (List Opn)} {Q : D → DEnv → Prop} (h : We (mo ρ) (fun o ρ1 => Sm (resO ρ1 o) fun d0 => Sm (isObj c f d0) fun _ => We (ma ρ1) (fun os ρ2 => Sm (resL ρ2 (o :: os)) fun ds => We (g.m ds) (fun d _ => Q d ρ2) (fun c ns vs _ => E c ns vs ρ2)) E) E) : We (mMeth c f g none mo ma ρ) Q E :=
  W_bind (h.mono fun o ρ1 ⟨d0, e0, _, e1, z⟩ => by
    (try dsimp only); rw [e0, Option.bind_some, e1]
    refine W_bind (z.mono fun os ρ2 ⟨ds, e, z⟩ => ?_)
    unfold callB; rw [e]; (try dsimp only)
    revert z
    cases g.m ds with
    | ok d ρo => intro z; have zz := We.okE z; exact We.ok zz
    | ex c ns vs ρo => intro z; have zz := We.exE z; exact We.exI zz
    | bad => exact fun z => (We.badE z).elim)
theorem W_make {c : String} {g : Sig} {m : M (List Opn)} {Q : D → DEnv → Prop} (h : We (m ρ) (fun os ρ1 => Sm (resL ρ1 os) fun ds => We (g.m (.obj c [] [] :: ds)) (fun d ρo => IsN d (Sm (ρo[0]?).join fun d' => Q d' ρ1)) (fun c ns vs _ => E c ns vs ρ1)) E) : We (makeM c g m ρ) Q E :=
  W_bind (h.mono fun os ρ1 ⟨ds, e, z⟩ => by
    unfold makeB; rw [e]; (try dsimp only)
    revert z
    cases g.m (.obj c [] [] :: ds) with
    | ok d ρo => intro z0; obtain ⟨e, d', e1, z⟩ := We.okE z0; subst e; show We (match (ρo[0]?).join with | some d' => R.ok d' ρ1 | none => .bad) Q E; rw [e1]; exact We.ok z
    | ex c ns vs ρo => intro z; have zz := We.exE z; exact We.exI zz
    | bad => exact fun z => (We.badE z).elim)
theorem W_mut {i : Nat} {op : List D → List D → Option (D × List D)} {m : M (List D)} {Q : D → DEnv → Prop} (h : Sm (lstOf (ρ[i]?).join) fun _ => We (m ρ) (fun args ρ1 => Sm (lstOf (ρ1[i]?).join) fun l => Sm (op l args) fun p => Upd (ρ1.set i (some (.lst p.2))) (Q p.1)) E) : We (callMut i op m ρ) Q E := by
  obtain ⟨l0, e0, h⟩ := h
  unfold callMut
  rw [e0]
  refine W_bind (h.mono fun args ρ1 ⟨l, e1, ⟨d, l'⟩, e2, z⟩ => ?_)
  (try dsimp only); rw [e1]; (try dsimp only); rw [e2]; exact We.ok (z _ rfl)
theorem W_index {mo : M Opn} {ma : M (List Opn)} {Q : D → DEnv → Prop} (h : We (mo ρ) (fun o ρ1 => Sm ((resO ρ1 o).bind lstD) fun _ => We (ma ρ1) (fun os ρ2 => Sm ((resO ρ2 o).bind lstD) fun l' => Sm ((o1 os).bind (resO ρ2)) fun d => Sm (placeD l' d) fun j => Q (.int (j : Nat)) ρ2) E) E) : We (mIndex mo ma ρ) Q E :=
  W_bind (h.mono fun o ρ1 ⟨l, e, z⟩ => by
    (try dsimp only); rw [e]
    refine W_bind (z.mono fun os ρ2 ⟨l', e1, d, e2, j, e4, z⟩ => ?_)
    (try dsimp only); rw [e1, e2]
    show We (match placeD l' d with | some j => R.ok (D.int (j : Nat)) ρ2 | none => .bad) Q E
    rw [e4]; exact We.ok z)
/-! ### what is gone through -/
theorem W_items {m : M Opn} {Q : List D → DEnv → Prop} (h : We (m ρ) (fun o ρ1 => Sm (resO ρ1 o) fun d => Sm (itemsD d) fun ds => Q ds ρ1) E) : We (mItems m ρ) Q E := W_bind (h.mono fun o ρ1 ⟨d, e1, ds, e2, z⟩ => by (try dsimp only); rw [e1]; (try dsimp only); rw [e2]; exact We.ok z)
theorem W_range1 {m : M (List D)} {Q : List D → DEnv → Prop} (h : We (m ρ) (fun ds ρ1 => Sm (d1 ds) fun j => Tr (okR 0 j) (Q (rangeD 0 j.toNat) ρ1)) E) : We (mRange1 m ρ) Q E := W_bind (h.mono fun ds ρ1 ⟨j, e, e2, z⟩ => by
  (try dsimp only); rw [e]
  show We (if okR 0 j = true then R.ok (rangeD 0 j.toNat) ρ1 else .bad) Q E
  rw [if_pos e2]; exact We.ok z)
theorem W_enumA {m : M (List Opn)} {Q : List D → DEnv → Prop} (h : We (m ρ) (fun os ρ1 => Sm ((o1 os).bind fun o => resO ρ1 o) fun d => Sm (seqOf d) fun l => Q (enumL 0 l) ρ1) E) : We (mEnumA m ρ) Q E := W_bind (h.mono fun os ρ1 ⟨d, e1, l, e2, z⟩ => by
  (try dsimp only); rw [e1, Option.bind_some, e2]; exact We.ok z)
/-! ### comprehensions that change nothing -/
theorem filt_true {l : List α} : l.filter (fun _ => true) = l := by simp
/-- one lap of a comprehension that changes nothing: the test gives c, the element y -/
def Lap (vs : List Nat) (b : Bd) (mt : M Bool) (me : M D) (ρw : DEnv) (x : D) (c : Bool) (y : D) : Prop :=
  Upd ρw fun ρw => Sm (b x ρw) fun ρ2 => Upd ρ2 fun ρ2 => wipeD ρ2 vs = ρw ∧ We (mt ρ2) (fun c' ρ3 => c' = c ∧ ρ3 = ρ2) NoE ∧ (c = true → We (me ρ2) (fun d ρ3 => d = y ∧ ρ3 = ρ2) NoE)
theorem Lap.mk {vs : List Nat} {b : Bd} {mt : M Bool} {me : M D} {x : D} {c : Bool} {y : D} (h : Upd ρw fun ρw => Sm (b x ρw) fun ρ2 => Upd ρ2 fun ρ2 => wipeD ρ2 vs = ρw ∧ We (mt ρ2) (fun c' ρ3 => c' = c ∧ ρ3 = ρ2) NoE ∧ (c = true → We (me ρ2) (fun d ρ3 => d = y ∧ ρ3 = ρ2) NoE)) : Lap vs b mt me ρw x c y := h
theorem Lap.of {vs : List Nat} {b : Bd} {mt : M Bool} {me : M D} {x : D} {c : Bool} {y : D} (h : Lap vs b mt me ρw x c y) : ∃ ρ2, b x ρw = some ρ2 ∧ wipeD ρ2 vs = ρw ∧ mt ρ2 = .ok c ρ2 ∧ (c = true → me ρ2 = .ok y ρ2) := by
  obtain ⟨ρ2, e, h⟩ := h ρw rfl
  obtain ⟨e2, h3, h4⟩ := h ρ2 rfl
  exact ⟨ρ2, e, e2, h3.eq, fun k => (h4 k).eq⟩
theorem lcL_pure {vs : List Nat} {b : Bd} {mt : M Bool} {me : M D} {f : α → D} (t : α → Bool) (e : α → D) : ∀ (l : List α) (acc : List D), (∀ x ∈ l, Lap vs b mt me ρw (f x) (t x) (e x)) → lcL vs b mt me (l.map f) acc ρw = .ok (acc ++ (l.filter t).map e) ρw
  | [], acc, h => by simp [lcL]
  | x :: l, acc, h => by
    obtain ⟨ρ2, h1, h2, e3, e4⟩ := (h x List.mem_cons_self).of
    have ih := fun acc => lcL_pure t e l acc fun y hy => h y (List.mem_cons_of_mem _ hy)
    rw [List.map_cons, lcL]
    cases k : t x with
    | true =>
      rw [k] at e3
      simp only [h1, e3, e4 k, h2, ih, List.filter_cons, k, if_true]
      simp
    | false =>
      rw [k] at e3
      simp only [h1, e3, h2, ih, List.filter_cons, k]
      simp
theorem W_lc {vs : List Nat} {m : M (List D)} {b : Bd} {mt : M Bool} {me : M D} {Q : D → DEnv → Prop} {f : α → D} (l : List α) (t : α → Bool) (e : α → D) (hm : We (m ρ) (fun ds ρ1 => ds = l.map f ∧ ρ1 = ρ) NoE)
    (h : ∀ x ∈ l, Lap vs b mt me (wipeD ρ vs) (f x) (t x) (e x)) (hp : putD ρ vs (wipeD ρ vs) = ρ) (k : Q (.lst ((l.filter t).map e)) ρ) : We (mLc vs m b mt me ρ) Q E := by
  refine W_bind (hm.use fun ds ρ1 z => ?_)
  obtain ⟨rfl, rfl⟩ := z
  (try dsimp only); rw [lcL_pure t e l [] h, List.nil_append]
  (try dsimp only); rw [hp]; exact We.ok k
/-- without a test -/
theorem W_lcA {vs : List Nat} {m : M (List D)} {b : Bd} {me : M D} {Q : D → DEnv → Prop} {f : α → D} (l : List α) (e : α → D) (hm : We (m ρ) (fun ds ρ1 => ds = l.map f ∧ ρ1 = ρ) NoE)
    (h : ∀ x ∈ l, Lap vs b (retM true) me (wipeD ρ vs) (f x) true (e x)) (hp : putD ρ vs (wipeD ρ vs) = ρ) (k : Q (.lst (l.map e)) ρ) : We (mLc vs m b (retM true) me ρ) Q E :=
  W_lc l (fun _ => true) e hm h hp (by rw [filt_true]; exact k)
/-- one outer lap: gone through ys -/
def Lap2 (vs vs1 : List Nat) (b : Bd) (mi : M (List D)) (b1 : Bd) (mt1 : M Bool) (me : M D) (ρw : DEnv) (x : D) (f : β → D) (l : List β) (t : β → Bool) (e : β → D) : Prop :=
  Upd ρw fun ρw => Sm (b x ρw) fun ρ2 => Upd ρ2 fun ρ2 => wipeD (wipeD ρ2 vs1) vs = ρw ∧ We (mi ρ2) (fun ds ρ3 => ds = l.map f ∧ ρ3 = ρ2) NoE ∧ ∀ y ∈ l, Lap vs1 b1 mt1 me (wipeD ρ2 vs1) (f y) (t y) (e y)
theorem Lap2.mk {vs vs1 : List Nat} {b : Bd} {mi : M (List D)} {b1 : Bd} {mt1 : M Bool} {me : M D} {x : D} {f : β → D} {l : List β} {t : β → Bool} {e : β → D} (h : Upd ρw fun ρw => Sm (b x ρw) fun ρ2 => Upd ρ2 fun ρ2 => wipeD (wipeD ρ2 vs1) vs = ρw ∧ We (mi ρ2) (fun ds ρ3 => ds = l.map f ∧ ρ3 = ρ2) NoE ∧ ∀ y ∈ l, Lap vs1 b1 mt1 me (wipeD ρ2 vs1) (f y) (t y) (e y)) : Lap2 vs vs1 b mi b1 mt1 me ρw x f l t e := h
/-- a dict comprehension that changes nothing, with new keys all along -/
def LapD (vs : List Nat) (b : Bd) (mt : M Bool) (mk mv : M D) (ρw : DEnv) (x : D) (c : Bool) (y z : D) : Prop :=
  Upd ρw fun ρw => Sm (b x ρw) fun ρ2 => Upd ρ2 fun ρ2 => wipeD ρ2 vs = ρw ∧ We (mt ρ2) (fun c' ρ3 => c' = c ∧ ρ3 = ρ2) NoE ∧ (c = true → We (mk ρ2) (fun d ρ3 => d = y ∧ ρ3 = ρ2) NoE ∧ We (mv ρ2) (fun d ρ3 => d = z ∧ ρ3 = ρ2) NoE)
theorem dcL_pure {vs : List Nat} {b : Bd} {mt : M Bool} {mk mv : M D} {f : α → D} (t : α → Bool) (ky : α → Key) (kd e : α → D) (hk : ∀ x, keyOf (kd x) = some (ky x)) : ∀ (l : List α) (ks : List Key) (acc : List D), (ks ++ (l.filter t).map ky).Nodup → (∀ x ∈ l, LapD vs b mt mk mv ρw (f x) (t x) (kd x) (e x)) → dcL vs b mt mk mv (l.map f) ks acc ρw = .ok (ks ++ (l.filter t).map ky, acc ++ (l.filter t).map e) ρw
  | [], ks, acc, hn, h => by simp [dcL]
  | x :: l, ks, acc, hn, h => by
    obtain ⟨ρ2, h1, z⟩ := h x List.mem_cons_self ρw rfl
    obtain ⟨h2, h3, h4⟩ := z ρ2 rfl
    have e3 := h3.eq
    have hl : ∀ y ∈ l, LapD vs b mt mk mv ρw (f y) (t y) (kd y) (e y) := fun y hy => h y (List.mem_cons_of_mem _ hy)
    rw [List.map_cons, dcL]
    cases k : t x with
    | true =>
      rw [k] at e3
      obtain ⟨k1, k2⟩ := h4 k
      have k1 := k1.eq
      have k2 := k2.eq
      rw [List.filter_cons, if_pos k, List.map_cons] at hn ⊢
      have nk : hasK ks (ky x) = false := by
        unfold hasK
        rw [decide_eq_false_iff_not]
        intro z
        exact (List.nodup_append.mp hn).2.2 _ z _ List.mem_cons_self rfl
      have ih := dcL_pure t ky kd e hk l (ks ++ [ky x]) (acc ++ [e x]) (by simpa using hn) hl
      simp only [h1, e3, k1, k2, hk, nk, h2, ih]
      simp
    | false =>
      rw [k] at e3
      have hc : (x :: l).filter t = l.filter t := by rw [List.filter_cons, k]; rfl
      rw [hc] at hn ⊢
      simp only [h1, e3, h2, dcL_pure t ky kd e hk l ks acc hn hl]
theorem W_dc {vs : List Nat} {m : M (List D)} {b : Bd} {mt : M Bool} {mk mv : M D} {Q : D → DEnv → Prop} {f : α → D} (l : List α) (t : α → Bool) (ky : α → Key) (kd e : α → D) (hk : ∀ x, keyOf (kd x) = some (ky x)) (hn : ((l.filter t).map ky).Nodup) (hm : We (m ρ) (fun ds ρ1 => ds = l.map f ∧ ρ1 = ρ) NoE)
    (h : ∀ x ∈ l, LapD vs b mt mk mv (wipeD ρ vs) (f x) (t x) (kd x) (e x)) (hp : putD ρ vs (wipeD ρ vs) = ρ) (k : Q (.dic ((l.filter t).map ky) ((l.filter t).map e)) ρ) : We (mDc vs m b mt mk mv ρ) Q E := by
  refine W_bind (hm.use fun ds ρ1 z => ?_)
  obtain ⟨rfl, rfl⟩ := z
  (try dsimp only); rw [dcL_pure t ky kd e hk l [] [] (by simpa using hn) h, List.nil_append, List.nil_append]
  (try dsimp only); rw [hp]; exact We.ok k
theorem W_dcA {vs : List Nat} {m : M (List D)} {b : Bd} {mk mv : M D} {Q : D → DEnv → Prop} {f : α → D} (l : List α) (ky : α → Key) (kd e : α → D) (hk : ∀ x, keyOf (kd x) = some (ky x)) (hn : (l.map ky).Nodup) (hm : We (m ρ) (fun ds ρ1 => ds = l.map f ∧ ρ1 = ρ) NoE)
    (h : ∀ x ∈ l, LapD vs b (retM true) mk mv (wipeD ρ vs) (f x) true (kd x) (e x)) (hp : putD ρ vs (wipeD ρ vs) = ρ) (k : Q (.dic (l.map ky) (l.map e)) ρ) : We (mDc vs m b (retM true) mk mv ρ) Q E :=
  W_dc l (fun _ => true) ky kd e hk (by rw [filt_true]; exact hn) hm h hp (by rw [filt_true]; exact k)
theorem LapD.mk {vs : List Nat} {b : Bd} {mt : M Bool} {mk mv : M D} {x : D} {c : Bool} {y z : D} (h : Upd ρw fun ρw => Sm (b x ρw) fun ρ2 => Upd ρ2 fun ρ2 => wipeD ρ2 vs = ρw ∧ We (mt ρ2) (fun c' ρ3 => c' = c ∧ ρ3 = ρ2) NoE ∧ (c = true → We (mk ρ2) (fun d ρ3 => d = y ∧ ρ3 = ρ2) NoE ∧ We (mv ρ2) (fun d ρ3 => d = z ∧ ρ3 = ρ2) NoE)) : LapD vs b mt mk mv ρw x c y z := h
/-- a comprehension by what stays true (a source that is drawn from) -/
theorem lcL_inv {vs : List Nat} {b : Bd} {mt : M Bool} {me : M D} {f : α → D} (l : List α) (I : List α → List D → DEnv → Prop) (h : ∀ done x rest acc ρ, l = done ++ x :: rest → I done acc ρ → Sm (b (f x) ρ) fun ρ1 => Upd ρ1 fun ρ1 => We (mt ρ1) (fun c ρ2 => Br c (We (me ρ2) (fun y ρ3 => Upd (wipeD ρ3 vs) (I (done ++ [x]) (acc ++ [y]))) NoE) (Upd (wipeD ρ2 vs) (I (done ++ [x]) acc))) NoE) (h0 : I [] [] ρ) :
    ∃ acc ρ', lcL vs b mt me (l.map f) [] ρ = .ok acc ρ' ∧ I l acc ρ' := by
  suffices H : ∀ (rest done : List α) (acc : List D) (ρ : DEnv), l = done ++ rest → I done acc ρ → ∃ acc' ρ', lcL vs b mt me (rest.map f) acc ρ = .ok acc' ρ' ∧ I l acc' ρ' from H l [] [] ρ rfl h0
  intro rest
  induction rest with
  | nil => intro done acc ρ e hi; rw [List.append_nil] at e; subst e; exact ⟨acc, ρ, rfl, hi⟩
  | cons x rest ih =>
    intro done acc ρ e hi
    obtain ⟨ρ1, e1, z⟩ := h done x rest acc ρ e hi
    obtain ⟨c, ρ2, e2, z⟩ := (z ρ1 rfl).ex
    rw [List.map_cons, lcL]
    cases c with
    | true =>
      obtain ⟨y, ρ3, k1, k2⟩ := (z.1 rfl).ex
      simp only [e1, e2, k1]
      exact ih (done ++ [x]) _ _ (by rw [e]; simp) (k2 _ rfl)
    | false =>
      simp only [e1, e2]
      exact ih (done ++ [x]) _ _ (by rw [e]; simp) (z.2 rfl _ rfl)
theorem W_lcI {vs : List Nat} {m : M (List D)} {b : Bd} {mt : M Bool} {me : M D} {Q : D → DEnv → Prop} {f : α → D} {ρm : DEnv} (l : List α) (I : List α → List D → DEnv → Prop) (hm : We (m ρ) (fun ds ρ1 => ds = l.map f ∧ ρ1 = ρm) NoE) (h0 : I [] [] (wipeD ρm vs))
    (h : ∀ done x rest acc ρ, l = done ++ x :: rest → I done acc ρ → Sm (b (f x) ρ) fun ρ1 => Upd ρ1 fun ρ1 => We (mt ρ1) (fun c ρ2 => Br c (We (me ρ2) (fun y ρ3 => Upd (wipeD ρ3 vs) (I (done ++ [x]) (acc ++ [y]))) NoE) (Upd (wipeD ρ2 vs) (I (done ++ [x]) acc))) NoE)
    (k : ∀ acc ρ', I l acc ρ' → Upd (putD ρm vs ρ') (Q (.lst acc))) : We (mLc vs m b mt me ρ) Q E := by
  refine W_bind (hm.use fun ds ρ1 z => ?_)
  obtain ⟨rfl, rfl⟩ := z
  obtain ⟨acc, ρ', e, hi⟩ := lcL_inv l I h h0
  (try dsimp only); rw [e]
  exact We.ok (k acc ρ' hi _ rfl)
end
end DM
end
section
set_option autoImplicit false
set_option Elab.async false
set_option linter.all false
set_option maxRecDepth 100000
set_option maxHeartbeats 4000000
/-! DM35: operations on data, told plainly. -/
namespace DM
open PySem L2
noncomputable instance decD : DecidableEq D := fun a b => Classical.propDecidable (a = b)
theorem sizeLine_big {n : Nat} (h : n ≤ 100000) : n ≤ sizeLine := by rw [sizeLine_eq]; omega
theorem sizeLine_lt {n : Nat} (h : n < 100000) : n < sizeLine := by rw [sizeLine_eq]; omega
/-! ### plain data: no truth values, dicts, objects -/
def pl : Nat → D → Bool
  | _, .non => true
  | _, .int _ => true
  | _, .str _ => true
  | n + 1, .lst l => l.all (pl n)
  | n + 1, .tup l => l.all (pl n)
  | _, _ => false
theorem pl_pyL {n : Nat} (h : ∀ d, pl n d = true → ∃ p, toPy d = some p ∧ p.depth ≤ n) : ∀ l : List D, l.all (pl n) = true → ∃ ps, toPyL l = some ps ∧ PyData.depthAll ps ≤ n
  | [], _ => ⟨[], by unfold toPyL; rfl, by unfold PyData.depthAll; omega⟩
  | d :: l, k => by
    rw [List.all_cons, Bool.and_eq_true] at k
    obtain ⟨p, e, b⟩ := h d k.1
    obtain ⟨ps, e2, b2⟩ := pl_pyL h l k.2
    exact ⟨p :: ps, by unfold toPyL; rw [e, e2], by unfold PyData.depthAll; omega⟩
theorem pl_py : ∀ (n : Nat) (d : D), pl n d = true → ∃ p, toPy d = some p ∧ p.depth ≤ n := by
  intro n
  induction n with
  | zero =>
    intro d h
    cases d <;> simp [pl] at h
    · exact ⟨_, by unfold toPy; rfl, by unfold PyData.depth; omega⟩
    · exact ⟨_, by unfold toPy; rfl, by unfold PyData.depth; omega⟩
    · exact ⟨_, by unfold toPy; rfl, by unfold PyData.depth; omega⟩
  | succ n ih =>
    intro d h
    cases d with
    | lst l =>
      obtain ⟨ps, e, b⟩ := pl_pyL ih l (by unfold pl at h; exact h)
      exact ⟨.list ps, by unfold toPy; rw [e]; rfl, by unfold PyData.depth; omega⟩
    | tup l =>
      obtain ⟨ps, e, b⟩ := pl_pyL ih l (by unfold pl at h; exact h)
      exact ⟨.tuple ps, by unfold toPy; rw [e]; rfl, by unfold PyData.depth; omega⟩
    | non => exact ⟨_, by unfold toPy; rfl, by unfold PyData.depth; omega⟩
    | int i => exact ⟨_, by unfold toPy; rfl, by unfold PyData.depth; omega⟩
    | str i => exact ⟨_, by unfold toPy; rfl, by unfold PyData.depth; omega⟩
    | _ => simp [pl] at h
theorem eqvL_pl {n m : Nat} (h : ∀ d e p q, pl n d = true → pl m e = true → toPy d = some p → toPy e = some q → PyData.eqv p q = decide (d = e)) : ∀ (l r : List D) (ps qs : List PyData), l.all (pl n) = true → r.all (pl m) = true → toPyL l = some ps → toPyL r = some qs → PyData.eqvAll ps qs = decide (l = r)
  | [], [], ps, qs, _, _, e1, e2 => by unfold toPyL at e1 e2; cases e1; cases e2; unfold PyData.eqvAll; simp
  | [], d :: r, ps, qs, _, _, e1, e2 => by
    unfold toPyL at e1 e2; cases e1
    cases h1 : toPy d <;> cases h2 : toPyL r <;> rw [h1, h2] at e2 <;> cases e2
    unfold PyData.eqvAll; simp
  | d :: l, [], ps, qs, _, _, e1, e2 => by
    unfold toPyL at e1 e2; cases e2
    cases h1 : toPy d <;> cases h2 : toPyL l <;> rw [h1, h2] at e1 <;> cases e1
    unfold PyData.eqvAll; simp
  | d :: l, e :: r, ps, qs, k1, k2, e1, e2 => by
    rw [List.all_cons, Bool.and_eq_true] at k1 k2
    unfold toPyL at e1 e2
    cases h1 : toPy d <;> cases h2 : toPyL l <;> rw [h1, h2] at e1 <;> cases e1
    cases h3 : toPy e <;> cases h4 : toPyL r <;> rw [h3, h4] at e2 <;> cases e2
    unfold PyData.eqvAll
    rw [h _ _ _ _ k1.1 k2.1 h1 h3, eqvL_pl h l r _ _ k1.2 k2.2 h2 h4]
    by_cases a : d = e <;> by_cases b : l = r <;> simp [a, b]
theorem pl_inv {n : Nat} {d : D} {p : PyData} (h : pl n d = true) (e : toPy d = some p) : (d = .non ∧ p = .none) ∨ (∃ i, d = .int i ∧ p = .int i) ∨ (∃ s, d = .str s ∧ p = .str s) ∨ (∃ l ps k, n = k + 1 ∧ d = .lst l ∧ p = .list ps ∧ toPyL l = some ps ∧ l.all (pl k) = true) ∨ (∃ l ps k, n = k + 1 ∧ d = .tup l ∧ p = .tuple ps ∧ toPyL l = some ps ∧ l.all (pl k) = true) := by
  cases d with
  | non => unfold toPy at e; cases e; exact .inl ⟨rfl, rfl⟩
  | int i => unfold toPy at e; cases e; exact .inr (.inl ⟨i, rfl, rfl⟩)
  | str i => unfold toPy at e; cases e; exact .inr (.inr (.inl ⟨i, rfl, rfl⟩))
  | lst l =>
    unfold toPy at e
    cases h2 : toPyL l <;> rw [h2] at e <;> cases e
    cases n with
    | zero => simp [pl] at h
    | succ n => exact .inr (.inr (.inr (.inl ⟨l, _, n, rfl, rfl, rfl, h2, by unfold pl at h; exact h⟩)))
  | tup l =>
    unfold toPy at e
    cases h2 : toPyL l <;> rw [h2] at e <;> cases e
    cases n with
    | zero => simp [pl] at h
    | succ n => exact .inr (.inr (.inr (.inr ⟨l, _, n, rfl, rfl, rfl, h2, by unfold pl at h; exact h⟩)))
  | _ => cases n <;> simp [pl] at h
theorem eqv_pl : ∀ (n m : Nat) (d e : D) (p q : PyData), pl n d = true → pl m e = true → toPy d = some p → toPy e = some q → PyData.eqv p q = decide (d = e) := by
  intro n
  induction n using Nat.strongRecOn with
  | ind n ih =>
    intro m d e p q h k e1 e2
    rcases pl_inv h e1 with ⟨rfl, rfl⟩ | ⟨i, rfl, rfl⟩ | ⟨i, rfl, rfl⟩ | ⟨l, ps, n', rfl, rfl, rfl, h1, h2⟩ | ⟨l, ps, n', rfl, rfl, rfl, h1, h2⟩ <;>
    rcases pl_inv k e2 with ⟨rfl, rfl⟩ | ⟨j, rfl, rfl⟩ | ⟨j, rfl, rfl⟩ | ⟨r, qs, m', rfl, rfl, rfl, k1, k2⟩ | ⟨r, qs, m', rfl, rfl, rfl, k1, k2⟩
    all_goals unfold PyData.eqv
    all_goals first
      | (simp; done)
      | (by_cases x : i = j <;> simp [x]; done)
      | (rw [eqvL_pl (fun d e p q a b => ih n' (by omega) m' d e p q a b) l r ps qs h2 k2 h1 k1]; by_cases x : l = r <;> simp [x])
theorem eqB_pl {n m : Nat} {d e : D} (h : pl n d = true) (k : pl m e = true) (hn : n ≤ 60) (hm : m ≤ 60) : eqB d e = some (decide (d = e)) := by
  obtain ⟨p, e1, b1⟩ := pl_py n d h
  obtain ⟨q, e2, b2⟩ := pl_py m e k
  unfold eqB
  rw [e1, e2]
  show (if p.depth ≤ 64 ∧ q.depth ≤ 64 then some (PyData.eqv p q) else none) = _
  rw [if_pos ⟨by omega, by omega⟩, eqv_pl n m d e p q h k e1 e2]
theorem eqD_pl {d e : D} (h : pl 60 d = true) (k : pl 60 e = true) : eqD d e = some (.bl (decide (d = e))) := by
  unfold eqD; rw [eqB_pl h k (Nat.le_refl _) (Nat.le_refl _)]; rfl
theorem neD_pl {d e : D} (h : pl 60 d = true) (k : pl 60 e = true) : neD d e = some (.bl (!decide (d = e))) := by
  unfold neD; rw [eqB_pl h k (Nat.le_refl _) (Nat.le_refl _)]; rfl
theorem any_pl {n m : Nat} {d : D} {p : PyData} (hd : pl n d = true) (e : toPy d = some p) : ∀ (l : List D) (ps : List PyData), l.all (pl m) = true → toPyL l = some ps → (ps.any fun z => PyData.eqv z p) = decide (d ∈ l)
  | [], ps, _, e2 => by unfold toPyL at e2; cases e2; simp
  | x :: l, ps, k, e2 => by
    rw [List.all_cons, Bool.and_eq_true] at k
    unfold toPyL at e2
    cases h1 : toPy x <;> cases h2 : toPyL l <;> rw [h1, h2] at e2 <;> cases e2
    rw [List.any_cons, any_pl hd e l _ k.2 h2, eqv_pl m n x d _ _ k.1 hd h1 e]
    by_cases a : d = x
    · simp [a]
    · have : ¬ x = d := fun z => a z.symm
      simp [a, this]
theorem memB_lst {d : D} {l : List D} (h : pl 60 d = true) (k : l.all (pl 60) = true) : memB d (.lst l) = some (decide (d ∈ l)) := by
  obtain ⟨p, e1, b1⟩ := pl_py 60 d h
  obtain ⟨ps, e2, b2⟩ := pl_pyL (pl_py 60) l k
  unfold memB
  simp only [e1, e2]
  rw [if_pos ⟨by omega, b2⟩, any_pl h e1 l ps k e2]
theorem flat_pl {d : D} (h : pl 0 d = true) : memB.flatD d = true := by
  cases d <;> simp [pl] at h <;> (unfold memB.flatD; rfl)
theorem memB_tup {d : D} {l : List D} (h : pl 0 d = true) (k : l.all (pl 0) = true) : memB d (.tup l) = some (decide (d ∈ l)) := by
  obtain ⟨p, e1, b1⟩ := pl_py 0 d h
  obtain ⟨ps, e2, b2⟩ := pl_pyL (pl_py 0) l k
  unfold memB
  simp only [e1, e2]
  rw [if_pos ⟨flat_pl h, by rw [List.all_eq_true] at k ⊢; exact fun x hx => flat_pl (k x hx)⟩, any_pl h e1 l ps k e2]
theorem in_lst {d : D} {l : List D} {n : Bool} (h : pl 60 d = true) (k : l.all (pl 60) = true) : inB n d (.lst l) = some (.bl (if n then !decide (d ∈ l) else decide (d ∈ l))) := by
  show (memB d (.lst l)).map _ = _
  rw [memB_lst h k]; rfl
theorem in_tup {d : D} {l : List D} {n : Bool} (h : pl 0 d = true) (k : l.all (pl 0) = true) : inB n d (.tup l) = some (.bl (if n then !decide (d ∈ l) else decide (d ∈ l))) := by
  show (memB d (.tup l)).map _ = _
  rw [memB_tup h k]; rfl
theorem find_key {κ α : Type} [DecidableEq κ] : ∀ (ks : List κ) (vs : List α) (k : κ), ks.length = vs.length → ((ks.zip vs).find? fun p => decide (p.1 = k)).map (·.2) = (posK ks k).bind fun j => vs[j]?
  | [], vs, k, h => by simp [posK]
  | a :: ks, [], k, h => by simp at h
  | a :: ks, v :: vs, k, h => by
    have ih := find_key ks vs k (by simpa using h)
    rw [List.zip_cons_cons, List.find?_cons, posK]
    by_cases e : a = k
    · simp [e]
    · simp only [e, decide_false, if_false]
      rw [ih]
      cases posK ks k <;> simp
theorem posK_some {κ : Type} [DecidableEq κ] : ∀ (ks : List κ) (k : κ), k ∈ ks → ∃ j, posK ks k = some j ∧ j < ks.length ∧ ks[j]? = some k
  | a :: ks, k, h => by
    unfold posK
    by_cases e : a = k
    · exact ⟨0, by rw [if_pos e], by simp, by simp [e]⟩
    · obtain ⟨j, e1, e2, e3⟩ := posK_some ks k (by rcases List.mem_cons.mp h with z | z; exact absurd z.symm e; exact z)
      exact ⟨j + 1, by rw [if_neg e, e1]; rfl, by simp; omega, by simpa using e3⟩
theorem posK_none {κ : Type} [DecidableEq κ] : ∀ (ks : List κ) (k : κ), k ∉ ks → posK ks k = none
  | [], k, h => rfl
  | a :: ks, k, h => by
    unfold posK
    rw [if_neg (fun e : a = k => h (by rw [e]; exact List.mem_cons_self)), posK_none ks k fun z => h (List.mem_cons_of_mem _ z)]; rfl
theorem look_isSome {κ α : Type} [DecidableEq κ] (ks : List κ) (vs : List α) (k : κ) (h : ks.length = vs.length) : (((ks.zip vs).find? fun p => decide (p.1 = k)).map (·.2)).isSome = hasK ks k := by
  unfold hasK
  rw [find_key ks vs k h]
  by_cases e : k ∈ ks
  · obtain ⟨j, e1, e2, _⟩ := posK_some ks k e
    rw [e1, Option.bind_some, List.getElem?_eq_getElem (by omega)]; simp [e]
  · rw [posK_none ks k e]; simp [e]
theorem hasK_iff {κ : Type} [DecidableEq κ] {ks : List κ} {k : κ} : hasK ks k = true ↔ k ∈ ks := by unfold hasK; simp
theorem in_dicS {s : Str} {ks : List Key} {vs : List D} {n : Bool} (h : ks.length = vs.length) : inB n (.str s) (.dic ks vs) = some (.bl (if n then !hasK ks (Sum.inr s) else hasK ks (Sum.inr s))) := by
  unfold inB memB lookD
  simp only [Option.map_some, look_isSome ks vs _ h]
theorem in_dct {ds : List D} {k : List Key} {ks : List (List Key)} {vs : List D} {n : Bool} (hk : keysOf ds = some k) (h : ks.length = vs.length) : inB n (.tup ds) (.dct ks vs) = some (.bl (if n then !hasK ks k else hasK ks k)) := by
  show ((((keysOf ds).map fun k => ((ks.zip vs).find? fun p => decide (p.1 = k)).map (·.2))).map Option.isSome).map _ = _
  rw [hk, Option.map_some, Option.map_some, look_isSome ks vs _ h]; rfl
theorem idx_dicS {s : Str} {ks : List Key} {vs : List D} {d : D} {j : Nat} (h : ks.length = vs.length) (e : posK ks (.inr s) = some j) (e2 : vs[j]? = some d) : idxD (.dic ks vs) (.str s) = some d := by
  show (some (((ks.zip vs).find? fun p => decide (p.1 = Sum.inr s)).map (·.2))).join = _
  rw [find_key ks vs _ h, e]; exact e2
/-! ### small ones -/
theorem eq_str' {a b : Str} : eqD (.str a) (.str b) = some (.bl (decide (a = b))) := by rw [eqD_pl rfl rfl]; simp
theorem eq_int' {a b : Int} : eqD (.int a) (.int b) = some (.bl (decide (a = b))) := by rw [eqD_pl rfl rfl]; simp
theorem ne_int' {a b : Int} : neD (.int a) (.int b) = some (.bl (!decide (a = b))) := by rw [neD_pl rfl rfl]; simp
theorem map_str_inj {l r : List Str} : l.map D.str = r.map D.str ↔ l = r := by
  constructor
  · intro h
    induction l generalizing r with
    | nil => cases r with | nil => rfl | cons => simp at h
    | cons a l ih => cases r with
      | nil => simp at h
      | cons b r => simp at h ⊢; exact ⟨h.1, ih h.2⟩
  · rintro rfl; rfl
theorem pl_strs {n : Nat} {l : List Str} : (l.map D.str).all (pl n) = true := by
  rw [List.all_eq_true]; intro d hd; obtain ⟨x, _, rfl⟩ := List.mem_map.mp hd; cases n <;> rfl
theorem pl_lstrs {n : Nat} {l : List Str} : pl (n + 1) (.lst (l.map D.str)) = true := pl_strs
theorem pl_tstrs {n : Nat} {l : List Str} : pl (n + 1) (.tup (l.map D.str)) = true := pl_strs
theorem pl_map {α : Type} {n : Nat} {l : List α} {f : α → D} (h : ∀ x, pl n (f x) = true) : (l.map f).all (pl n) = true := by
  rw [List.all_eq_true]; intro d hd; obtain ⟨x, _, rfl⟩ := List.mem_map.mp hd; exact h x
theorem eq_tstrs {l r : List Str} : eqD (.tup (l.map .str)) (.tup (r.map .str)) = some (.bl (decide (l = r))) := by rw [eqD_pl pl_tstrs pl_tstrs]; simp [map_str_inj]
theorem ne_strs {l r : List Str} : neD (.lst (l.map .str)) (.lst (r.map .str)) = some (.bl (!decide (l = r))) := by rw [neD_pl pl_lstrs pl_lstrs]; simp [map_str_inj]
theorem ne_nil {α : Type} {f : α → D} {l : List α} (h : ∀ x, pl 59 (f x) = true) : neD (.lst (l.map f)) (.lst []) = some (.bl (!decide (l = []))) := by
  rw [neD_pl (d := .lst (l.map f)) (e := .lst []) (by show (l.map f).all (pl 59) = true; exact pl_map h) rfl]; cases l <;> simp
theorem in_strs' {n : Bool} {a : Str} {l : List Str} : inB n (.str a) (.lst (l.map .str)) = some (.bl (if n then !decide (a ∈ l) else decide (a ∈ l))) := by
  rw [in_lst rfl pl_strs]; simp
theorem in_tstrs' {n : Bool} {a : Str} {l : List Str} : inB n (.str a) (.tup (l.map .str)) = some (.bl (if n then !decide (a ∈ l) else decide (a ∈ l))) := by
  rw [in_tup rfl pl_strs]; simp
theorem in_strsF {a : Str} {l : List Str} : inB false (.str a) (.lst (l.map .str)) = some (.bl (decide (a ∈ l))) := by rw [in_strs']; rfl
theorem in_strsT {a : Str} {l : List Str} : inB true (.str a) (.lst (l.map .str)) = some (.bl (!decide (a ∈ l))) := by rw [in_strs']; rfl
theorem in_tstrsF {a : Str} {l : List Str} : inB false (.str a) (.tup (l.map .str)) = some (.bl (decide (a ∈ l))) := by rw [in_tstrs']; rfl
/-- pairs of texts, as tuples -/
abbrev pairD (p : Str × Str) : D := .tup [.str p.1, .str p.2]
theorem pairD_inj {p q : Str × Str} : pairD p = pairD q ↔ p = q := by
  obtain ⟨a, b⟩ := p; obtain ⟨c, d⟩ := q; simp [pairD]
theorem pl_pr {n : Nat} {p : Str × Str} : pl (n + 1) (pairD p) = true := by cases n <;> rfl
theorem in_prs {n : Bool} {a b : Str} {l : List (Str × Str)} : inB n (.tup [.str a, .str b]) (.lst (l.map pairD)) = some (.bl (if n then !decide ((a, b) ∈ l) else decide ((a, b) ∈ l))) := by
  have e : (D.tup [.str a, .str b] ∈ l.map pairD) = ((a, b) ∈ l) := by
    show (pairD (a, b) ∈ l.map pairD) = _
    simp only [List.mem_map, pairD_inj, exists_eq_right]
  rw [in_lst rfl (pl_map (n := 60) fun _ => pl_pr)]; simp only [e]
theorem mod_is {i j : Int} (h : 0 < j) : intD modI (.int i) (.int j) = some (.int (i % j)) := by
  show (if 0 < j then some (i % j) else none).map _ = _
  rw [if_pos h]; rfl
theorem mul_isL {i j : Int} (h : -1000000000 < i) (k : i < 1000000000) : mulD (.int i) (.int j) = some (.int (i * j)) := by
  show (if (-(2 ^ 64) < i ∧ i < 2 ^ 64) ∨ (-(2 ^ 64) < j ∧ j < 2 ^ 64) then some (i * j) else none).map _ = _
  rw [if_pos (.inl ⟨by omega, by omega⟩)]; rfl
theorem add_lst {a b : List D} (h : a.length + b.length ≤ 100000) : addD (.lst a) (.lst b) = some (.lst (a ++ b)) := by
  show (if a.length + b.length ≤ sizeLine then _ else _) = _
  rw [if_pos (sizeLine_big h)]
theorem add_str {a b : Str} (h : a.length + b.length ≤ 100000) : addD (.str a) (.str b) = some (.str (a ++ b)) := by
  show (if a.length + b.length ≤ sizeLine then _ else _) = _
  rw [if_pos (sizeLine_big h)]
theorem app_is {l : List D} {d : D} (h : l.length < 100000) : appD l [d] = some (.non, l ++ [d]) := by
  show (if l.length < sizeLine then _ else _) = _
  rw [if_pos (sizeLine_lt h)]
theorem ext_is {l m : List D} (h : l.length + m.length ≤ 100000) : extD l [.lst m] = some (.non, l ++ m) := by
  show (if l.length + m.length ≤ sizeLine then _ else _) = _
  rw [if_pos (sizeLine_big h)]
theorem idx_lst {l : List D} {i : Int} {d : D} (h : 0 ≤ i) (e : l[i.toNat]? = some d) : idxD (.lst l) (.int i) = some d := by
  have hl := (List.getElem?_eq_some_iff.mp e).1
  show atI l i = _
  rw [atI_ofNat h (by omega), e]
theorem idx_nat {α : Type} {f : α → D} {l : List α} {n : Nat} (h : n < l.length) : idxD (.lst (l.map f)) (.int n) = some (f l[n]) := idx_lst (Int.natCast_nonneg _) (by simp [h])
theorem cut_to {α : Type} {xs : List α} {n : Nat} : cutD xs none (some (n : Int)) = xs.take n := by
  show (xs.drop 0).take (HT.sIx xs.length xs.length (some (n : Int)) - 0) = _
  rw [HT.sIx_nat, List.drop_zero, Nat.sub_zero]
  by_cases h : n ≤ xs.length
  · rw [Nat.min_eq_left h]
  · rw [Nat.min_eq_right (by omega), List.take_length, List.take_of_length_le (by omega)]
theorem cut_from {α : Type} {xs : List α} {n : Nat} : cutD xs (some (n : Int)) none = xs.drop n := by
  show (xs.drop (HT.sIx xs.length 0 (some (n : Int)))).take (xs.length - HT.sIx xs.length 0 (some (n : Int))) = _
  rw [HT.sIx_nat]
  by_cases h : n ≤ xs.length
  · rw [Nat.min_eq_left h, List.take_of_length_le (by simp)]
  · rw [Nat.min_eq_right (by omega), List.drop_length, List.drop_of_length_le (by omega)]; simp
theorem slice_to {l : List D} {i : Int} (h : 0 ≤ i) : sliceD none (some i) (.lst l) = some (.lst (l.take i.toNat)) := by
  obtain ⟨n, rfl⟩ := Int.eq_ofNat_of_zero_le h
  show some (D.lst (cutD l none (some (n : Int)))) = _
  rw [cut_to]; rfl
theorem slice_from {l : List D} {i : Int} (h : 0 ≤ i) : sliceD (some i) none (.lst l) = some (.lst (l.drop i.toNat)) := by
  obtain ⟨n, rfl⟩ := Int.eq_ofNat_of_zero_le h
  show some (D.lst (cutD l (some (n : Int)) none)) = _
  rw [cut_from]; rfl
theorem slice_fromT {l : List D} {i : Int} (h : 0 ≤ i) : sliceD (some i) none (.tup l) = some (.tup (l.drop i.toNat)) := by
  obtain ⟨n, rfl⟩ := Int.eq_ofNat_of_zero_le h
  show some (D.tup (cutD l (some (n : Int)) none)) = _
  rw [cut_from]; rfl
theorem blsD_map {α : Type} (t : α → Bool) : ∀ l : List α, blsD (l.map fun x => .bl (t x)) = some (l.map t)
  | [] => rfl
  | a :: l => by simp [blsD, blsD_map t l]
theorem all_is {α : Type} {t : α → Bool} {l : List α} : allD (.lst (l.map fun x => .bl (t x))) = some (.bl (l.all t)) := by
  unfold allD; simp only [lstD, Option.bind_some, blsD_map, Option.map_some]; simp
theorem okR_nat {n : Nat} (h : n ≤ 100000) : okR 0 (n : Int) = true := by
  unfold okR
  have := sizeLine_eq
  simp only [Bool.and_eq_true, decide_eq_true_eq]
  refine ⟨⟨⟨⟨by decide, by decide⟩, ?_⟩, ?_⟩, ?_⟩
  · exact Int.lt_of_le_of_lt (Int.ofNat_le.mpr h) (by decide)
  · exact Int.le_trans (by decide) (Int.natCast_nonneg n)
  · rw [Int.sub_zero, Int.toNat_natCast, this]; omega
theorem rangeD_nat (n : Nat) : rangeD 0 ((n : Int)).toNat = (List.range n).map fun (i : Nat) => D.int (i : Int) := by
  unfold rangeD; simp
theorem enumL_map {α : Type} {f : α → D} : ∀ (l : List α) (i : Nat), enumL i (l.map f) = (l.zipIdx i).map fun p => D.tup [.int (p.2 : Nat), f p.1]
  | [], i => rfl
  | a :: l, i => by rw [List.map_cons, enumL, List.zipIdx_cons, List.map_cons, enumL_map l (i + 1)]
end DM
end
section
set_option autoImplicit false
set_option Elab.async false
set_option linter.all false
set_option maxRecDepth 100000
set_option maxHeartbeats 4000000
namespace DM
open PySem L2
/-! ### words -/
def lowC (c : Nat) : Prop := 97 ≤ c ∧ c ≤ 122
def digC (c : Nat) : Prop := 48 ≤ c ∧ c ≤ 57
structure IsW (z : Str) : Prop where
  ex : ∃ a t, z.cps.toList = a :: t ∧ lowC a ∧ (∀ c ∈ t, lowC c ∨ digC c) ∧ t.length ≤ 11
theorem IsW.len {z : Str} (h : IsW z) : 1 ≤ z.length ∧ z.length ≤ 12 := by
  obtain ⟨a, t, e, _, _, h⟩ := h.ex
  have : z.length = z.cps.toList.length := by rw [Array.length_toList]; rfl
  rw [this, e, List.length_cons]; omega
theorem low0 : ∀ r : _root_.Fin 26, memB (.str ⟨#[97 + r.val]⟩) (.str "abcdefghijklmnopqrstuvwxyz") = some true := by decide +kernel
theorem dig0' : ∀ r : _root_.Fin 10, memB (.str ⟨#[48 + r.val]⟩) (.str "0123456789") = some true := by decide +kernel
theorem digl0 : ∀ r : _root_.Fin 10, memB (.str ⟨#[48 + r.val]⟩) (.str "abcdefghijklmnopqrstuvwxyz") = some false := by decide +kernel
theorem low_in {c : Nat} (h : lowC c) (n : Bool) : inB n (.str ⟨#[c]⟩) (.str "abcdefghijklmnopqrstuvwxyz") = some (.bl (!n)) := by
  have e := low0 ⟨c - 97, by have := h.1; have := h.2; omega⟩
  have : 97 + (c - 97) = c := by have := h.1; omega
  simp only [this] at e
  show (memB (.str ⟨#[c]⟩) (.str "abcdefghijklmnopqrstuvwxyz")).map (fun b => D.bl (if n then !b else b)) = _
  rw [e]; cases n <;> rfl
theorem dig_in {c : Nat} (h : digC c) : inB false (.str ⟨#[c]⟩) (.str "0123456789") = some (.bl true) := by
  have e := dig0' ⟨c - 48, by have := h.1; have := h.2; omega⟩
  have : 48 + (c - 48) = c := by have := h.1; omega
  simp only [this] at e
  show (memB (.str ⟨#[c]⟩) (.str "0123456789")).map _ = _
  rw [e]; rfl
theorem dig_low {c : Nat} (h : digC c) : inB false (.str ⟨#[c]⟩) (.str "abcdefghijklmnopqrstuvwxyz") = some (.bl false) := by
  have e := digl0 ⟨c - 48, by have := h.1; have := h.2; omega⟩
  have : 48 + (c - 48) = c := by have := h.1; omega
  simp only [this] at e
  show (memB (.str ⟨#[c]⟩) (.str "abcdefghijklmnopqrstuvwxyz")).map _ = _
  rw [e]; rfl
/-! ### rows -/
theorem nodup_take {α : Type} {l : List α} {i : Nat} {a : α} (h : l.Nodup) (e : l[i]? = some a) : a ∉ l.take i := by
  intro z
  obtain ⟨j, hj, e2⟩ := List.getElem_of_mem z
  rw [List.getElem_take] at e2
  have hj' : j < i := by rw [List.length_take] at hj; omega
  obtain ⟨hi, e3⟩ := List.getElem?_eq_some_iff.mp e
  have := (List.getElem_inj (h₀ := by omega) (h₁ := hi) h).mp (e2.trans e3.symm)
  omega
theorem mem_zipIdx_ge {α : Type} : ∀ (l : List α) (n : Nat) (p : α × Nat), p ∈ l.zipIdx n → n ≤ p.2
  | [], n, p, h => by simp at h
  | a :: l, n, p, h => by
    rw [List.zipIdx_cons] at h
    rcases List.mem_cons.mp h with rfl | h
    · exact Nat.le_refl _
    · have := mem_zipIdx_ge l (n + 1) p h; omega
theorem nodup_zipIdx {α : Type} : ∀ (l : List α) (n : Nat), (l.zipIdx n).Nodup
  | [], n => by simp
  | a :: l, n => by
    rw [List.zipIdx_cons, List.nodup_cons]
    exact ⟨fun h => by have := mem_zipIdx_ge l (n + 1) _ h; simp at this; omega, nodup_zipIdx l (n + 1)⟩
theorem enumL_c {i : Nat} {d : D} {ds : List D} : enumL i (d :: ds) = .tup [.int i, d] :: enumL (i + 1) ds := rfl
theorem enumL_n {i : Nat} : enumL i [] = [] := rfl
theorem slice_toN {α : Type} {f : α → D} {l : List α} {n : Nat} : sliceD none (some (n : Int)) (.lst (l.map f)) = some (.lst ((l.take n).map f)) := by
  rw [slice_to (Int.natCast_nonneg n), Int.toNat_natCast, List.map_take]
theorem slice_to1N {α : Type} {f : α → D} {l : List α} {n : Nat} : sliceD none (some (1 + (n : Int))) (.lst (l.map f)) = some (.lst ((l.take (1 + n)).map f)) := by
  rw [show 1 + (n : Int) = ((1 + n : Nat) : Int) by omega, slice_toN]
theorem slice_fromN {α : Type} {f : α → D} {l : List α} {n : Nat} : sliceD (some (n : Int)) none (.lst (l.map f)) = some (.lst ((l.drop n).map f)) := by
  rw [slice_from (Int.natCast_nonneg n), Int.toNat_natCast, List.map_drop]
theorem slice_fromN1T {α : Type} {f : α → D} {l : List α} {n : Nat} : sliceD (some ((n : Int) + 1)) none (.tup (l.map f)) = some (.tup ((l.drop (n + 1)).map f)) := by
  rw [show (n : Int) + 1 = ((n + 1 : Nat) : Int) by omega, slice_fromT (Int.natCast_nonneg _), Int.toNat_natCast, List.map_drop]
theorem shal_tstrs {l : List Str} : shal (.tup (l.map .str)) = true := by
  show (l.map D.str).all scalD = true
  rw [List.all_eq_true]; intro d hd; obtain ⟨x, _, rfl⟩ := List.mem_map.mp hd; rfl
theorem putKs_new {κ : Type} [DecidableEq κ] {ks : List κ} {k : κ} (h : k ∉ ks) : putKs ks k = ks ++ [k] := by unfold putKs; rw [if_neg h]
theorem putVs_new {κ α : Type} [DecidableEq κ] {ks : List κ} {vs : List α} {k : κ} {d : α} (h : k ∉ ks) : putVs ks vs k d = vs ++ [d] := by unfold putVs; rw [if_neg h]
theorem dput_newT {ks : List (List Key)} {vs ds : List D} {v : D} {k : List Key} (hk : keysOf ds = some k) (h : k ∉ ks) (hl : vs.length < 100000) : dputD (.dct ks vs) (.tup ds) v = some (.dct (ks ++ [k]) (vs ++ [v])) := by
  show (if vs.length < sizeLine then _ else _) = _
  rw [if_pos (sizeLine_lt hl), hk, Option.map_some, putKs_new h, putVs_new h]
theorem dput_newS {ks : List Key} {vs : List D} {v : D} {s : Str} (h : Sum.inr s ∉ ks) (hl : vs.length < 100000) : dputD (.dic ks vs) (.str s) v = some (.dic (ks ++ [.inr s]) (vs ++ [v])) := by
  show (if vs.length < sizeLine then _ else _) = _
  rw [if_pos (sizeLine_lt hl), putKs_new h, putVs_new h]
theorem findIdx_strs : ∀ (l : List Str) (x : Str), ((l.map PyData.str).findIdx? fun z => PyData.eqv z (.str x)) = l.findIdx? fun z => decide (z = x)
  | [], x => rfl
  | a :: l, x => by
    rw [List.map_cons, List.findIdx?_cons, List.findIdx?_cons, findIdx_strs l x]
    have : PyData.eqv (.str a) (.str x) = decide (a = x) := by
      rw [eqv_pl 0 0 (.str a) (.str x) _ _ rfl rfl rfl rfl]; simp
    rw [this]
theorem toPyL_strs : ∀ (l : List Str), toPyL (l.map D.str) = some (l.map PyData.str)
  | [] => by simp [toPyL]
  | a :: l => by simp [toPyL, toPy, toPyL_strs l]
theorem depthAll_strs : ∀ (l : List Str), PyData.depthAll (l.map PyData.str) ≤ 1
  | [] => by simp [PyData.depthAll]
  | a :: l => by
    have := depthAll_strs l
    simp only [List.map_cons, PyData.depthAll, PyData.depth]
    omega
theorem place_strs {l : List Str} {x : Str} : placeD (l.map .str) (.str x) = l.findIdx? fun z => decide (z = x) := by
  unfold placeD
  simp only [toPy, toPyL_strs]
  rw [if_pos ⟨by unfold PyData.depth; decide, by have := depthAll_strs l; omega⟩, findIdx_strs]
theorem findIdx_mem : ∀ (l : List Str) (x : Str), x ∈ l → ∃ j, (l.findIdx? fun z => decide (z = x)) = some j ∧ j < l.length ∧ l[j]? = some x ∧ l.eraseIdx j = l.erase x
  | a :: l, x, h => by
    rw [List.findIdx?_cons]
    by_cases e : a = x
    · subst e; exact ⟨0, by simp, by simp, by simp, by simp⟩
    · obtain ⟨j, e1, e2, e3, e4⟩ := findIdx_mem l x (by rcases List.mem_cons.mp h with z | z; exact absurd z.symm e; exact z)
      refine ⟨j + 1, by simp [e, e1], by simp; omega, by simpa using e3, ?_⟩
      rw [List.eraseIdx_cons_succ, e4, List.erase_cons]
      simp [e]
theorem app_strs {α : Type} {f : α → D} {l : List α} {x : α} (h : l.length < 100000) : appD (l.map f) [f x] = some (.non, (l ++ [x]).map f) := by
  rw [app_is (by simpa using h)]; simp
theorem fn1_mk {f : D → Option D} {d e : D} (h : f d = some e) : fn1 f [d] = some e := h
theorem okR_lit {i : Int} (h0 : 0 ≤ i) (h1 : i ≤ 100000) : okR 0 i = true := by
  obtain ⟨n, rfl⟩ := Int.eq_ofNat_of_zero_le h0
  exact okR_nat (by omega)
theorem isOpIn {n : Bool} {d e x : D} (h : inB n d e = some x) : inB n d e = some x := h
theorem isOpEq {d e x : D} (h : eqD d e = some x) : eqD d e = some x := h
theorem isOpNe {d e x : D} (h : neD d e = some x) : neD d e = some x := h
theorem isOkR {i j : Int} (h : okR i j = true) : okR i j = true := h
theorem isEqO {α : Type} {a b : Option α} (h : a = b) : a = b := h
theorem isEqT {a : Bool} (h : a = true) : a = true := h
theorem emod_cast {n k : Nat} : ((n : Int) + 1) % (k : Int) = (((n + 1) % k : Nat) : Int) := by norm_cast
end DM
end
section
set_option autoImplicit false
set_option Elab.async false
set_option linter.all false
set_option maxRecDepth 100000
set_option maxHeartbeats 4000000
/-! DM37: ties, peelings: plain mathematics. -/
namespace DM
open PySem L2
section
variable {nb nb' : Str → Str → Bool}
def tiesR (nb : Str → Str → Bool) : List Str → List (Str × Str)
  | [] => []
  | x :: l => (l.filter (nb x)).map (fun y => (x, y)) ++ tiesR nb l
theorem tiesR_flat {full : List Str} : ∀ (l : List Str) (n : Nat), full.drop n = l → ((l.zipIdx n).flatMap fun p => ((full.drop (p.2 + 1)).filter (nb p.1)).map fun y => (p.1, y)) = tiesR nb l
  | [], n, h => rfl
  | x :: l, n, h => by
    have h2 : full.drop (n + 1) = l := by rw [← List.tail_drop, h]; rfl
    rw [List.zipIdx_cons, List.flatMap_cons, tiesR_flat l (n + 1) h2]
    show ((full.drop (n + 1)).filter (nb x)).map _ ++ _ = _
    rw [h2]; rfl
theorem tiesR_mem : ∀ {l : List Str} {x y : Str}, (x, y) ∈ tiesR nb l → x ∈ l ∧ y ∈ l ∧ nb x y = true ∧ (l.Nodup → x ≠ y)
  | a :: l, x, y, h => by
    unfold tiesR at h
    rcases List.mem_append.mp h with h | h
    · obtain ⟨z, hz, e⟩ := List.mem_map.mp h
      cases e
      obtain ⟨h1, h2⟩ := List.mem_filter.mp hz
      refine ⟨List.mem_cons_self, List.mem_cons_of_mem _ h1, h2, fun hn e => ?_⟩
      subst e
      exact (List.nodup_cons.mp hn).1 h1
    · obtain ⟨h1, h2, h3, h4⟩ := tiesR_mem h
      exact ⟨List.mem_cons_of_mem _ h1, List.mem_cons_of_mem _ h2, h3, fun hn => h4 (List.nodup_cons.mp hn).2⟩
theorem tiesR_all (sy : ∀ x y, nb x y = nb y x) : ∀ {l : List Str} {x y : Str}, x ∈ l → y ∈ l → x ≠ y → nb x y = true → (x, y) ∈ tiesR nb l ∨ (y, x) ∈ tiesR nb l
  | a :: l, x, y, hx, hy, hn, h => by
    unfold tiesR
    rcases List.mem_cons.mp hx with rfl | hx'
    · rcases List.mem_cons.mp hy with rfl | hy'
      · exact absurd rfl hn
      · exact .inl (List.mem_append_left _ (List.mem_map.mpr ⟨y, List.mem_filter.mpr ⟨hy', h⟩, rfl⟩))
    · rcases List.mem_cons.mp hy with rfl | hy'
      · exact .inr (List.mem_append_left _ (List.mem_map.mpr ⟨x, List.mem_filter.mpr ⟨hx', by rw [sy]; exact h⟩, rfl⟩))
      · exact (tiesR_all sy hx' hy' hn h).imp (List.mem_append_right _) (List.mem_append_right _)
theorem nodup_map {α β : Type} {f : α → β} {l : List α} (h : l.Nodup) (hf : ∀ x ∈ l, ∀ y ∈ l, f x = f y → x = y) : (l.map f).Nodup := by
  induction l with
  | nil => simp
  | cons a l ih =>
    rw [List.map_cons, List.nodup_cons]
    obtain ⟨h1, h2⟩ := List.nodup_cons.mp h
    refine ⟨fun z => ?_, ih h2 fun x hx y hy => hf x (List.mem_cons_of_mem _ hx) y (List.mem_cons_of_mem _ hy)⟩
    obtain ⟨y, hy, e⟩ := List.mem_map.mp z
    have := hf y (List.mem_cons_of_mem _ hy) a List.mem_cons_self e
    exact h1 (this ▸ hy)
theorem nodup_filter {α : Type} {l : List α} (p : α → Bool) (h : l.Nodup) : (l.filter p).Nodup := List.Pairwise.filter p h
theorem tiesR_nodup : ∀ {l : List Str}, l.Nodup → (tiesR nb l).Nodup
  | [], _ => by unfold tiesR; exact List.nodup_nil
  | a :: l, h => by
    obtain ⟨h1, h2⟩ := List.nodup_cons.mp h
    unfold tiesR
    refine List.nodup_append.mpr ⟨nodup_map (nodup_filter _ h2) fun x _ y _ e => by cases e; rfl, tiesR_nodup h2, fun p hp q hq e => ?_⟩
    subst e
    obtain ⟨z, hz, rfl⟩ := List.mem_map.mp hp
    exact h1 (tiesR_mem hq).1
theorem tiesR_anti : ∀ {l : List Str} {x y : Str}, l.Nodup → (x, y) ∈ tiesR nb l → (y, x) ∉ tiesR nb l
  | a :: l, x, y, hn, h, k => by
    obtain ⟨h1, h2⟩ := List.nodup_cons.mp hn
    have ne := (tiesR_mem h).2.2.2 hn
    unfold tiesR at h k
    rcases List.mem_append.mp h with h | h
    · obtain ⟨z, hz, e⟩ := List.mem_map.mp h
      cases e
      rcases List.mem_append.mp k with k | k
      · obtain ⟨w, hw, e⟩ := List.mem_map.mp k
        cases e
        exact ne rfl
      · exact h1 (tiesR_mem k).2.1
    · rcases List.mem_append.mp k with k | k
      · obtain ⟨w, hw, e⟩ := List.mem_map.mp k
        cases e
        exact h1 (tiesR_mem h).2.1
      · exact tiesR_anti h2 h k
theorem tiesR_len : ∀ {l : List Str}, (tiesR nb l).length ≤ l.length * l.length
  | [] => by simp [tiesR]
  | a :: l => by
    unfold tiesR
    rw [List.length_append, List.length_map]
    have h1 := List.length_filter_le (nb a) l
    have h2 := tiesR_len (l := l)
    rw [List.length_cons, Nat.succ_mul, Nat.mul_succ]
    omega
/-! ### peelings -/
def Simp (nb : Str → Str → Bool) (left : List Str) (x : Str) : Prop := ∀ y ∈ left, ∀ z ∈ left, y ≠ x → z ≠ x → nb x y = true → nb x z = true → nb y z = true
inductive Good (nb : Str → Str → Bool) : List Str → Prop
  | nil : Good nb []
  | cons {l : List Str} {x : Str} (hx : x ∈ l) (hs : Simp nb l x) (h : Good nb (l.erase x)) : Good nb l
theorem Simp.sub {l l' : List Str} {x : Str} (h : Simp nb l x) (hl : ∀ y ∈ l', y ∈ l) : Simp nb l' x := fun y hy z hz => h y (hl y hy) z (hl z hz)
theorem Good.sub {l : List Str} (h : Good nb l) : l.Nodup → ∀ {l' : List Str}, l'.Nodup → (∀ y ∈ l', y ∈ l) → Good nb l' := by
  induction h with
  | nil =>
    intro _ l' _ hs
    cases l' with
    | nil => exact .nil
    | cons a l => exact absurd (hs a List.mem_cons_self) (by simp)
  | cons hx hs h ih =>
    rename_i l x
    intro hn l' hn' hl
    by_cases e : x ∈ l'
    · refine .cons e (hs.sub hl) (ih (hn.erase _) (hn'.erase _) fun y hy => ?_)
      rw [hn'.mem_erase_iff] at hy
      rw [hn.mem_erase_iff]
      exact ⟨hy.1, hl y hy.2⟩
    · refine ih (hn.erase _) hn' fun y hy => ?_
      rw [hn.mem_erase_iff]
      exact ⟨fun z => e (z ▸ hy), hl y hy⟩
theorem Good.congr {l : List Str} (h : Good nb l) : (∀ x ∈ l, ∀ y ∈ l, nb x y = nb' x y) → Good nb' l := by
  induction h with
  | nil => intro _; exact .nil
  | cons hx hs h ih =>
    rename_i l x
    intro hc
    refine .cons hx (fun y hy z hz n1 n2 k1 k2 => ?_) (ih fun a ha b hb => hc a (List.mem_of_mem_erase ha) b (List.mem_of_mem_erase hb))
    rw [← hc x hx y hy] at k1
    rw [← hc x hx z hz] at k2
    rw [← hc y hy z hz]
    exact hs y hy z hz n1 n2 k1 k2
theorem Good.some {l : List Str} (h : Good nb l) (hl : l ≠ []) : ∃ x ∈ l, Simp nb l x := by
  cases h with
  | nil => exact absurd rfl hl
  | cons hx hs h => exact ⟨_, hx, hs⟩
/-- peeling off by a test -/
def peelG (fr : List Str → Str → Bool) : Nat → List Str → List Str → List Str × List Str
  | 0, found, left => (found, left)
  | n + 1, found, left => match left.filter (fr left) with
    | [] => (found, left)
    | x :: _ => peelG fr n (found ++ [x]) (left.erase x)
def FrOk (nb : Str → Str → Bool) (ps : List Str) (fr : List Str → Str → Bool) : Prop := ∀ left, (∀ y ∈ left, y ∈ ps) → ∀ x ∈ left, fr left x = true ↔ Simp nb left x
def IsPeel (nb : Str → Str → Bool) : List Str → Prop
  | [] => True
  | x :: l => (∀ y ∈ l, ∀ z ∈ l, nb x y = true → nb x z = true → nb y z = true) ∧ IsPeel nb l
/-- as many laps as there are posts; none where one has nothing to be peeled off -/
def peelO (fr : List Str → Str → Bool) : Nat → List Str → List Str → Option (List Str)
  | 0, found, left => some found
  | n + 1, found, left => match left.filter (fr left) with
    | [] => none
    | x :: _ => peelO fr n (found ++ [x]) (left.erase x)
end
theorem sortStr_perm {xs ys : List Str} (h : xs.Perm ys) : sortStr xs = sortStr ys := by
  have p : ∀ xs : List Str, (sortStr xs).Pairwise fun a b => leS a b = true := fun xs => List.pairwise_mergeSort (le := leS) (fun a b c h k => leS_trans h k) leS_total xs
  exact List.Perm.eq_of_pairwise (fun a b _ _ => leS_anti) (p xs) (p ys) ((List.mergeSort_perm xs leS).trans (h.trans (List.mergeSort_perm ys leS).symm))
theorem strsD_map : ∀ l : List Str, strsD (l.map .str) = some l
  | [] => rfl
  | a :: l => by rw [List.map_cons, strsD, strsD_map l]; rfl
theorem sort_lst {l : List Str} : sortSD (.lst (l.map .str)) = some (.lst ((sortStr l).map .str)) := by
  show ((strsD (l.map .str)).map _) = _
  rw [strsD_map]; rfl
/-! ### ties -/
structure Ties (ps : List Str) (ts : List (Str × Str)) : Prop where
  ne : ∀ t ∈ ts, t.1 ≠ t.2 ∧ t.1 ∈ ps ∧ t.2 ∈ ps
  nd : ts.Nodup
  na : ∀ t ∈ ts, (t.2, t.1) ∉ ts
theorem Ties.nil (ps : List Str) : Ties ps [] := ⟨fun _ h => (nomatch h), List.nodup_nil, fun _ h => (nomatch h)⟩
theorem Ties.more {ps ps' : List Str} {ts : List (Str × Str)} (h : Ties ps ts) (hs : ∀ p ∈ ps, p ∈ ps') : Ties ps' ts := ⟨fun t ht => ⟨(h.ne t ht).1, hs _ (h.ne t ht).2.1, hs _ (h.ne t ht).2.2⟩, h.nd, h.na⟩
theorem Ties.snoc {ps : List Str} {ts : List (Str × Str)} (h : Ties ps ts) {x : Str} (hx : x ∉ ps) {l : List Str} (hl : ∀ y ∈ l, y ∈ ps) (hn : l.Nodup) : Ties (ps ++ [x]) (ts ++ l.map fun y => (y, x)) where
  ne := fun t ht => by
    rcases List.mem_append.mp ht with ht | ht
    · obtain ⟨h1, h2, h3⟩ := h.ne t ht
      exact ⟨h1, List.mem_append_left _ h2, List.mem_append_left _ h3⟩
    · obtain ⟨y, hy, rfl⟩ := List.mem_map.mp ht
      exact ⟨fun e => hx (show x ∈ ps from (show y = x from e) ▸ hl y hy), List.mem_append_left _ (hl y hy), List.mem_append_right _ (by simp)⟩
  nd := List.nodup_append.mpr ⟨h.nd, nodup_map hn fun a _ b _ e => by cases e; rfl, fun a ha b hb e => by
    subst e
    obtain ⟨y, hy, rfl⟩ := List.mem_map.mp hb
    exact hx (h.ne _ ha).2.2⟩
  na := fun t ht k => by
    rcases List.mem_append.mp ht with ht | ht
    · rcases List.mem_append.mp k with k | k
      · exact h.na t ht k
      · obtain ⟨y, hy, e⟩ := List.mem_map.mp k
        have : x = t.1 := (Prod.mk.inj e).2
        exact hx (this ▸ (h.ne t ht).2.1)
    · obtain ⟨y, hy, rfl⟩ := List.mem_map.mp ht
      rcases List.mem_append.mp k with k | k
      · exact hx (h.ne _ k).2.1
      · obtain ⟨z, hz, e⟩ := List.mem_map.mp k
        have e2 : x = y := (Prod.mk.inj e).2
        exact hx (e2 ▸ hl _ hy)
theorem Ties.perm {ps : List Str} {ts ts' : List (Str × Str)} (h : Ties ps ts) (p : ts'.Perm ts) : Ties ps ts' :=
  ⟨fun t ht => h.ne t (p.mem_iff.mp ht), p.nodup_iff.mpr h.nd, fun t ht k => h.na t (p.mem_iff.mp ht) (p.mem_iff.mp k)⟩
/-- each one turned or not -/
inductive Turned : List (Str × Str) → List (Str × Str) → Prop
  | nil : Turned [] []
  | cons {a b : Str × Str} {l l' : List (Str × Str)} (hab : b = a ∨ b = (a.2, a.1)) (h : Turned l l') : Turned (a :: l) (b :: l')
theorem Ties.turned {ps : List Str} : ∀ {ts : List (Str × Str)} (h : Ties ps ts) {ts' : List (Str × Str)}, Turned ts ts' → Ties ps ts' := by
  intro ts h ts' f
  have mem : ∀ {ts ts' : List (Str × Str)}, Turned ts ts' → ∀ t ∈ ts', t ∈ ts ∨ (t.2, t.1) ∈ ts := by
    intro ts ts' f
    induction f with
    | nil => intro t ht; cases ht
    | cons hab _ ih =>
      rename_i a b l l'
      intro t ht
      rcases List.mem_cons.mp ht with rfl | ht
      · rcases hab with rfl | rfl
        · exact .inl List.mem_cons_self
        · exact .inr List.mem_cons_self
      · exact (ih t ht).imp (List.mem_cons_of_mem _) (List.mem_cons_of_mem _)
  have ap : ∀ {ts ts' : List (Str × Str)}, Turned ts ts' → Ties ps ts → ts'.Nodup ∧ ∀ t ∈ ts', (t.2, t.1) ∉ ts' := by
    intro ts ts' f
    induction f with
    | nil => intro _; exact ⟨List.nodup_nil, fun _ h => nomatch h⟩
    | cons hab hf ih =>
      rename_i a b l l'
      intro h
      have h0 : Ties ps l := ⟨fun t ht => h.ne t (List.mem_cons_of_mem _ ht), (List.nodup_cons.mp h.nd).2, fun t ht k => h.na t (List.mem_cons_of_mem _ ht) (List.mem_cons_of_mem _ k)⟩
      obtain ⟨i1, i2⟩ := ih h0
      have hb : b ∉ l' ∧ (b.2, b.1) ∉ l' := by
        have k1 : a ∉ l := (List.nodup_cons.mp h.nd).1
        have k2 : (a.2, a.1) ∉ l := fun z => h.na a List.mem_cons_self (List.mem_cons_of_mem _ z)
        have m := mem hf
        rcases hab with rfl | rfl
        · exact ⟨fun z => (m _ z).elim k1 k2, fun z => (m _ z).elim k2 k1⟩
        · exact ⟨fun z => (m _ z).elim k2 k1, fun z => (m _ z).elim k1 k2⟩
      have nb : b.1 ≠ b.2 := by
        have := (h.ne a List.mem_cons_self).1
        rcases hab with rfl | rfl
        · exact this
        · exact fun z => this z.symm
      refine ⟨List.nodup_cons.mpr ⟨hb.1, i1⟩, fun t ht k => ?_⟩
      rcases List.mem_cons.mp ht with rfl | ht
      · rcases List.mem_cons.mp k with k | k
        · exact nb (congrArg Prod.fst k).symm
        · exact hb.2 k
      · rcases List.mem_cons.mp k with k | k
        · exact hb.2 (by rw [← k]; exact ht)
        · exact i2 t ht k
  obtain ⟨a1, a2⟩ := ap f h
  refine ⟨fun t ht => ?_, a1, a2⟩
  rcases mem f t ht with k | k
  · exact h.ne t k
  · obtain ⟨h1, h2, h3⟩ := h.ne _ k
    exact ⟨fun z => h1 z.symm, h3, h2⟩
theorem nodup_len : ∀ {l l' : List Str}, l.Nodup → (∀ x ∈ l, x ∈ l') → l.length ≤ l'.length
  | [], _, _, _ => Nat.zero_le _
  | a :: l, l', h, hs => by
    obtain ⟨h1, h2⟩ := List.nodup_cons.mp h
    have ha := hs a List.mem_cons_self
    have := nodup_len (l' := l'.erase a) h2 fun x hx => (List.mem_erase_of_ne (fun e : x = a => h1 (e ▸ hx))).mpr (hs x (List.mem_cons_of_mem _ hx))
    have e := List.length_erase_of_mem ha
    have p := List.length_pos_of_mem ha
    rw [List.length_cons]; omega
theorem turned_snoc {l l' : List (Str × Str)} {a b : Str × Str} (h : Turned l l') (k : b = a ∨ b = (a.2, a.1)) : Turned (l ++ [a]) (l' ++ [b]) := by
  induction h with
  | nil => exact .cons k .nil
  | cons hab _ ih => exact .cons hab ih
theorem turned_len {l l' : List (Str × Str)} (h : Turned l l') : l'.length = l.length := by
  induction h with
  | nil => rfl
  | cons hab _ ih => simp [ih]
theorem turned_mem {l l' : List (Str × Str)} (h : Turned l l') (x y : Str) : (x, y) ∈ l' ∨ (y, x) ∈ l' ↔ (x, y) ∈ l ∨ (y, x) ∈ l := by
  induction h with
  | nil => simp
  | cons hab _ ih =>
    rename_i a b l l' _
    simp only [List.mem_cons]
    rcases hab with rfl | rfl
    · constructor
      · rintro ((h | h) | (h | h))
        · exact .inl (.inl h)
        · exact (ih.mp (.inl h)).imp .inr .inr
        · exact .inr (.inl h)
        · exact (ih.mp (.inr h)).imp .inr .inr
      · rintro ((h | h) | (h | h))
        · exact .inl (.inl h)
        · exact (ih.mpr (.inl h)).imp .inr .inr
        · exact .inr (.inl h)
        · exact (ih.mpr (.inr h)).imp .inr .inr
    · have sw : ∀ u v : Str, (u, v) = (a.2, a.1) ↔ (v, u) = a := fun u v => by
        obtain ⟨p, q⟩ := a
        simp only [Prod.mk.injEq]
        exact And.comm
      rw [sw x y, sw y x]
      constructor
      · rintro ((h | h) | (h | h))
        · exact .inr (.inl h)
        · exact (ih.mp (.inl h)).imp .inr .inr
        · exact .inl (.inl h)
        · exact (ih.mp (.inr h)).imp .inr .inr
      · rintro ((h | h) | (h | h))
        · exact .inr (.inl h)
        · exact (ih.mpr (.inl h)).imp .inr .inr
        · exact .inl (.inl h)
        · exact (ih.mpr (.inr h)).imp .inr .inr
theorem range_at {n k : Nat} {done rest : List Nat} (h : List.range n = done ++ k :: rest) : k = done.length ∧ done.length < n := by
  have hl := congrArg List.length h
  simp at hl
  have : (List.range n)[done.length]? = some k := by rw [h]; simp
  rw [List.getElem?_range (by omega)] at this
  exact ⟨(Option.some.inj this).symm, by omega⟩
end DM
end
section
set_option autoImplicit false
set_option Elab.async false
set_option linter.all false
set_option maxRecDepth 100000
set_option maxHeartbeats 4000000
/-! DM38: starred displays, d.get(k, z), t.index(x) of texts. -/
namespace DM
open PySem PySem.Spec PyProof.Rows L2
/-- a row of frozen values, some of them spliced in -/
def rXF (C : Cl) : RRel (List D) (List V) := fun ds _ F _ _ vs fp => fp = [] ∧ RepL C F ds vs
def SXS (T : Ct) (G : List Md) (es : List Expr) (G' : List Md) (m : M (List D)) : Prop := PA T.X es (tG T G G' (rXF T.C) m)
def xStar (f : M Opn) (m : M (List D)) : M (List D) := bindM f fun o => fun ρ => match (resO ρ o).bind memsD with
  | some l => bindM m (fun ds => retM (l ++ ds)) ρ
  | none => .bad
def eTupS (m : M (List D)) : M D := bindM m fun ds => fun ρ => if ds.length ≤ sizeLine then .ok (.tup ds) ρ else .bad
def eLstS (m : M (List D)) : M D := bindM m fun ds => fun ρ => if ds.length ≤ sizeLine then .ok (.lst ds) ρ else .bad
theorem repL_app {C : Cl} {F : Hp} : ∀ {ds es : List D} {xs ys : List V}, RepL C F ds xs → RepL C F es ys → RepL C F (ds ++ es) (xs ++ ys)
  | [], es, xs, ys, h, k => by unfold RepL at h; subst h; exact k
  | d :: ds, es, xs, ys, h, k => by
    unfold RepL at h
    obtain ⟨x, xr, rfl, h1, h2⟩ := h
    exact RepL.cons h1 (repL_app h2 k)
section
variable {T : Ct} {G G1 G2 G3 G' : List Md} {pos : Pos}
theorem sxs_nil : SXS T G [] G (retM []) := PAimp pa_nil fun σ H Q ⟨F, ρ, fps, ex, r, m⟩ => Rem.fin (fp := []) m (Ext.refl _ _ _) r ⟨rfl, RepL.nil⟩
theorem sxs_cons {e : Expr} {es : List Expr} {f : M D} {m : M (List D)} (he : SV T G e G1 f) (hr : SXS T G1 es G2 m) (hs : starEach (e :: es) T.X.env = (false, eval e T.X.env) :: starEach es T.X.env := by rfl) : SXS T G (e :: es) G2 (xCons f m) :=
  PAimp (pa_cons he hr hs) fun σ H Q ⟨F, ρ, fps, ex, r0, m0⟩ => by
  refine seqR (rr1 := rV T.C) r0 m0 fun d x F1 H1 ρ1 fps1 fp1 e1 r1 z1 m1 => ?_
  obtain ⟨rfl, z1⟩ := z1
  refine seqR (rr1 := rXF T.C) r1 m1 fun ds xs F2 H2 ρ2 fps2 fp2 e2 r2 z2 m2 => ?_
  obtain ⟨rfl, z2⟩ := z2
  exact Rem.fin (fp := []) m2 (Ext.refl _ _ _) r2 ⟨rfl, RepL.cons (Rep.mono e2.e1 _ _ z1) z2⟩
theorem mems_of {C : Cl} {K : PySem.W.Frag} {F H : Hp} {d : D} {x : V} {l : List D} (s : Sub F H) (h : Opd C F H d x) (e : memsD d = some l) : ∃ a xs, x = .ref a ∧ (SqT K H a xs ∨ SqL K H a xs) ∧ RepL C F l xs := by
  cases d <;> simp only [memsD, reduceCtorEq, Option.some.injEq] at e
  case lst =>
    subst e
    obtain ⟨a, xs, rfl, h1, h2, _⟩ := h.lst s
    exact ⟨a, xs, rfl, .inr (SqL.of h1), h2⟩
  case tup =>
    subst e
    obtain ⟨a, xs, rfl, h1, h2, _⟩ := h.tup s
    exact ⟨a, xs, rfl, .inl (SqT.of h1), h2⟩
theorem sxs_star {e : Expr} {es : List Expr} {p : Pos} {B : Option Nat} {f : M Opn} {m : M (List D)} (he : SO T G e B G1 f) (hr : SXS T G1 es G2 m) (k : okB G1 B = true := by rfl)
    (hs : starEach (.Starred e p :: es) T.X.env = (true, eval e T.X.env) :: starEach es T.X.env := by rfl) : SXS T G (.Starred e p :: es) G2 (xStar f m) := PAimp (StX.pa_star he hr hs) fun σ H Q ⟨F, ρ, fps, ex, r0, m0⟩ => by
  refine seqR r0 m0 fun o x F1 H1 ρ1 fps1 fp1 e1 r1 z1 m1 => ?_
  obtain ⟨rfl, z1⟩ := z1
  cases q : resO ρ1 o with
  | none => simp only [q, Option.bind_none] at m1; exact m1.elim
  | some d =>
    simp only [q, Option.bind_some] at m1
    cases q2 : memsD d with
    | none => simp only [q2] at m1; exact m1.elim
    | some l =>
      simp only [q2] at m1
      obtain ⟨a, xs, rfl, h1, h2⟩ := mems_of (K := T.X.K) r1.sub (opd_of r1 z1 q k) q2
      refine ⟨a, xs, rfl, h1, ?_⟩
      refine seqR (rr1 := rXF T.C) r1 m1 fun ds ys F2 H2 ρ2 fps2 fp2 e2 r2 z2 m2 => ?_
      obtain ⟨rfl, z2⟩ := z2
      exact Rem.fin (fp := []) m2 (Ext.refl _ _ _) r2 ⟨rfl, repL_app (RepL.mono e2.e1 _ _ h2) z2⟩
theorem sf_lstS {es : List Expr} {m : M (List D)} (h : SXS T G es G' m) : SF T G (.List es pos) 0 G' (eLstS m) := PEimp (pe_lst h) fun σ H Q ⟨F, ρ, fps, ex, r0, m0⟩ => by
  refine seqR r0 m0 fun ds xs F1 H1 ρ1 fps1 fp1 e1 r1 z1 m1 => ?_
  obtain ⟨rfl, hr⟩ := z1
  by_cases hl : ds.length ≤ sizeLine
  · rw [if_pos hl] at m1
    refine ⟨by rw [← hr.length]; exact hl, fun p hp => ?_⟩
    have n : NewOk T.C F1 H1 (.lst ds) (.ref p) _ _ [p] := NewOk.lst hp hr hl
    obtain ⟨x1, x2⟩ := n.go r1
    exact Rem.fin m1 x1 x2 n.1
  · rw [if_neg hl] at m1; exact m1.elim
/-! ### d.get(k, z) -/
def dicD : D → Bool
  | .dic _ _ => true
  | .dct _ _ => true
  | _ => false
def eGet (mo : M Opn) (mk mz : M D) : M D := bindM mo fun o => fun ρ => match (resO ρ o).map dicD with
  | some true => bindM mk (fun k => bindM mz fun z => fun ρ => match (resO ρ o).bind fun d => lookD d k with
    | some r => .ok (r.getD z) ρ
    | none => .bad) ρ
  | _ => .bad
end
end DM
end
section
set_option autoImplicit false
set_option Elab.async false
set_option linter.all false
set_option maxRecDepth 4000
set_option maxHeartbeats 4000000
/-! DM39: len(set(t)), t a tuple of texts, each once. -/
namespace DM
open PySem PySem.Spec PyProof.Rows L2
def had (xs : List Str) (i : Nat) : Str → Bool := fun z => (xs.take i).any (· == z)
section
variable {P : Program} {w : World} {A : Around} {E : Value → Shared → Prop} {s : Shared} {R : Result → Shared → Prop}
abbrev newSet (led : Bool) : Obj := { cls := .type "set", dict := none, data := .set #[] 0 (.fresh 0 0 led) }
set_option maxHeartbeats 8000000 in
end
/-! ### len(set(t)) -/
def tupD : D → Option (List D)
  | .tup l => some l
  | .tpx l => some l
  | _ => none
theorem tupD_sq {C : Cl} {K : PySem.W.Frag} {F H : Hp} {d : D} {x : V} {l : List D} (s : Sub F H) (h : Opd C F H d x) (e : tupD d = some l) : ∃ a xs, x = .ref a ∧ SqT K H a xs ∧ RepL C F l xs := by
  cases d <;> simp only [tupD, reduceCtorEq, Option.some.injEq] at e
  case tup =>
    subst e
    obtain ⟨a, xs, rfl, h1, h2, _⟩ := h.tup s
    exact ⟨a, xs, rfl, SqT.of h1, h2⟩
  case tpx =>
    subst e
    obtain ⟨a, ob, xs, rfl, h1, _, h2, _⟩ := h.tpx s
    exact ⟨a, xs, rfl, sqT_fz h1, h2⟩
def setN (d : D) : Option Nat := match (tupD d).bind strsD with
  | some xs => if xs.Nodup ∧ xs.length ≤ 4000 then some xs.length else none
  | none => none
def mLenSet (m : M Opn) : M D := bindM m fun o => fun ρ => match (resO ρ o).bind setN with
  | some n => .ok (.int (n : Nat)) ρ
  | none => .bad
section
variable {T : Ct} {G G' : List Md} {X : Cx}
def tSetLen (K : PySem.W.Frag) (ta : TE) : TE := fun σ H Q => ta σ H fun x H1 => ∃ l, ∃ xs : List Str, x = .ref l ∧ SqT K H1 l (xs.map V.str) ∧ xs.Nodup ∧ xs.length ≤ 4000 ∧ Q (.int xs.length) H1
end
end DM
end
section
set_option autoImplicit false
set_option Elab.async false
set_option linter.all false
set_option maxRecDepth 100000
set_option maxHeartbeats 4000000
/-! DM40: where nothing can be peeled off there is a long ring: plain mathematics. -/
namespace DM
open PySem L2
section
variable {nb : Str → Str → Bool} {A A' : Str → Prop} {a b c : Str}
/-- going on from a to near ones, all of them allowed -/
inductive Rch (nb : Str → Str → Bool) (A : Str → Prop) (a : Str) : Str → Prop
  | refl : Rch nb A a a
  | step {b c : Str} (h : Rch nb A a b) (hc : A c) (hn : nb b c = true) : Rch nb A a c
theorem Rch.trans (h : Rch nb A a b) (k : Rch nb A b c) : Rch nb A a c := by
  induction k with
  | refl => exact h
  | step _ hc hn ih => exact .step ih hc hn
theorem Rch.mem (h : Rch nb A a b) (ha : A a) : A b := by
  cases h with
  | refl => exact ha
  | step _ hc _ => exact hc
theorem Rch.symm (sy : ∀ x y, nb x y = nb y x) (h : Rch nb A a b) (ha : A a) : Rch nb A b a := by
  induction h with
  | refl => exact .refl
  | step h hc hn ih => exact Rch.trans (.step .refl (h.mem ha) (by rw [sy]; exact hn)) ih
theorem Rch.imp (h : Rch nb A a b) (k : ∀ x, A x → A' x) : Rch nb A' a b := by
  induction h with
  | refl => exact .refl
  | step _ hc hn ih => exact .step ih (k _ hc) hn
theorem Rch.closed {D : Str → Prop} (h : Rch nb A a b) (ha : D a) (k : ∀ x y, D x → A y → nb x y = true → D y) : D b := by
  induction h with
  | refl => exact ha
  | step _ hc hn ih => exact k _ _ ih hc hn
/-- a way from s to t through posts of A alone -/
def Link (nb : Str → Str → Bool) (A : Str → Prop) (s t : Str) : Prop := ∃ c1 c2, A c1 ∧ nb s c1 = true ∧ nb t c2 = true ∧ Rch nb A c1 c2
theorem Link.symm (sy : ∀ x y, nb x y = nb y x) {s t : Str} (h : Link nb A s t) : Link nb A t s := by
  obtain ⟨c1, c2, h1, h2, h3, h4⟩ := h
  exact ⟨c2, c1, h4.mem h1, h3, h2, h4.symm sy h1⟩
theorem Link.imp {s t : Str} (h : Link nb A s t) (k : ∀ x, A x → A' x) : Link nb A' s t := by
  obtain ⟨c1, c2, h1, h2, h3, h4⟩ := h
  exact ⟨c1, c2, k _ h1, h2, h3, h4.imp k⟩
/-- the posts that are not near p -/
def Far (nb : Str → Str → Bool) (U : List Str) (p : Str) : Str → Prop := fun x => x ∈ U ∧ nb p x = false
def NoRing (nb : Str → Str → Bool) (U : List Str) : Prop := ∀ p ∈ U, ∀ s ∈ U, ∀ t ∈ U, s ≠ p → t ≠ p → nb p s = true → nb p t = true → nb s t = false → ¬ Link nb (Far nb U p) s t
open Classical in
/-! ### ways without short cuts -/
/-- along w just neighbours are near -/
def Cdl (nb : Str → Str → Bool) (w : List Str) : Prop := ∀ i j a b, w[i]? = some a → w[j]? = some b → i < j → (nb a b = true ↔ j = i + 1)
theorem Cdl.one {a : Str} : Cdl nb [a] := fun i j x y h1 h2 hij => by
  have hj : j < 1 := (List.getElem?_eq_some_iff.mp h2).1
  omega
theorem Cdl.snoc {w : List Str} {q : Str} (h : Cdl nb w) (k : ∀ i a, w[i]? = some a → (nb a q = true ↔ i + 1 = w.length)) : Cdl nb (w ++ [q]) := fun i j a b h1 h2 hij => by
  have hj : j < (w ++ [q]).length := (List.getElem?_eq_some_iff.mp h2).1
  rw [List.length_append, List.length_singleton] at hj
  have h1' : w[i]? = some a := by rw [List.getElem?_append_left (by omega)] at h1; exact h1
  by_cases e : j < w.length
  · rw [List.getElem?_append_left e] at h2
    exact h i j a b h1' h2 hij
  · obtain rfl : j = w.length := by omega
    have : b = q := by simpa using h2.symm
    subst this
    rw [k i a h1']
    omega
/-- a long ring -/
structure IsLong (ps : List Str) (nb : Str → Str → Bool) (r : List Str) : Prop where
  nd : r.Nodup
  len : 4 ≤ r.length
  mem : ∀ x ∈ r, x ∈ ps
  nr : ∀ i j a b, r[i]? = some a → r[j]? = some b → i < j → (nb a b = true ↔ j = i + 1 ∨ (i = 0 ∧ j + 1 = r.length))
/-- a way from one post near p to another, its inner posts not near p -/
theorem IsLong.of {ps : List Str} {p : Str} {w : List Str} (hw : Cdl nb w) (hn : w.Nodup) (hl : 3 ≤ w.length) (hp : p ∈ ps) (hm : ∀ x ∈ w, x ∈ ps) (hpw : p ∉ w) (he : ∀ i a, w[i]? = some a → (nb p a = true ↔ i = 0 ∨ i + 1 = w.length)) : IsLong ps nb (p :: w) where
  nd := List.nodup_cons.mpr ⟨hpw, hn⟩
  len := by rw [List.length_cons]; omega
  mem := fun x hx => by
    rcases List.mem_cons.mp hx with h | h
    · rw [h]; exact hp
    · exact hm x h
  nr := fun i j a b h1 h2 hij => by
    obtain ⟨m, rfl⟩ : ∃ m, j = m + 1 := ⟨j - 1, by omega⟩
    rw [List.getElem?_cons_succ] at h2
    rw [List.length_cons]
    cases i with
    | zero =>
      rw [List.getElem?_cons_zero] at h1
      cases h1
      rw [he m b h2]
      omega
    | succ i =>
      rw [List.getElem?_cons_succ] at h1
      rw [hw i m a b h1 h2 (by omega)]
      omega
end
end DM
end
section
set_option autoImplicit false
set_option Elab.async false
set_option linter.all false
set_option maxRecDepth 100000
set_option maxHeartbeats 4000000
/-! DM41: repr of data. -/
namespace DM
open PySem PySem.Spec PyProof.Rows L2
theorem strOk_lean (z : String) : PyData.strOk (Str.ofString z) = true := by
  rw [strOk_mem, Str.ofString_eq_toList]
  intro c hc
  simp only [List.mem_map] at hc
  obtain ⟨k, _, rfl⟩ := hc
  have := k.valid
  have e : k.toNat = k.val.toNat := rfl
  rcases this with h | h
  · have h2 : k.val.toNat < 0xd800 := h
    omega
  · have h2 : k.val.toNat < 0x110000 := h.2
    omega
theorem digit_ok (n : Nat) : ∀ c ∈ (Nat.toDigits 16 n).map Char.toNat, c < 0x110000 := by
  intro c hc
  obtain ⟨k, _, rfl⟩ := List.mem_map.mp hc
  have e : k.toNat = k.val.toNat := rfl
  rcases k.valid with h | h
  · have h2 : k.val.toNat < 0xd800 := h
    omega
  · have h2 : k.val.toNat < 0x110000 := h.2
    omega
theorem rchar_ok {q c : Nat} (hq : q < 0x110000) (hc : c < 0x110000) : ∀ d ∈ Builtin.Str.reprChar q c, d < 0x110000 := by
  have hx : ∀ w, ∀ d ∈ List.replicate (w - ((Nat.toDigits 16 c).map Char.toNat).length) 48 ++ (Nat.toDigits 16 c).map Char.toNat, d < 0x110000 := fun w d hd => by
    rcases List.mem_append.mp hd with h | h
    · rw [(List.mem_replicate.mp h).2]; omega
    · exact digit_ok c d h
  intro d hd
  unfold Builtin.Str.reprChar at hd
  dsimp only at hd
  repeat' split at hd
  all_goals first
    | (rcases List.mem_append.mp hd with h | h
       · simp only [List.mem_cons, List.not_mem_nil, or_false] at h
         omega
       · exact hx _ d h)
    | (simp only [List.mem_cons, List.not_mem_nil, or_false] at hd
       omega)
theorem fold_ok {q : Nat} (hq : q < 0x110000) : ∀ (l : List Nat) (acc : Array Nat), (∀ c ∈ l, c < 0x110000) → (∀ c ∈ acc.toList, c < 0x110000) → ∀ c ∈ (l.foldl (fun o c => o ++ (Builtin.Str.reprChar q c).toArray) acc).toList, c < 0x110000
  | [], acc, _, h => h
  | a :: l, acc, h1, h2 => by
    rw [List.foldl_cons]
    refine fold_ok hq l _ (fun c hc => h1 c (List.mem_cons_of_mem _ hc)) fun c hc => ?_
    rw [Array.toList_append, List.mem_append] at hc
    rcases hc with hc | hc
    · exact h2 c hc
    · exact rchar_ok hq (h1 a List.mem_cons_self) c (by simpa using hc)
theorem reprText_ok {x : Str} (h : PyData.strOk x = true) : PyData.strOk (reprText x) = true := by
  have hq : reprQuote x < 0x110000 := by
    unfold reprQuote
    split <;> decide
  rw [strOk_mem] at *
  intro c hc
  unfold reprText at hc
  rw [Array.toList_push, List.mem_append] at hc
  rcases hc with hc | hc
  · rw [← Array.foldl_toList] at hc
    exact fold_ok hq x.cps.toList #[reprQuote x] h (fun c hc => by simp at hc; omega) c hc
  · simp at hc; omega
theorem from_ok : ∀ (ts : List Str) (k : Nat) (acc : Str), PyData.strOk acc = true → (∀ t ∈ ts, PyData.strOk t = true) → PyData.strOk (textFrom k acc ts) = true
  | [], k, acc, h, _ => h
  | t :: r, k, acc, h, hs => from_ok r (k + 1) _ (strOk_app (strOk_app h (strOk_lean _)) (hs t List.mem_cons_self)) fun u hu => hs u (List.mem_cons_of_mem _ hu)
theorem join_ok : ∀ (ts : List Str), (∀ t ∈ ts, PyData.strOk t = true) → PyData.strOk (Str.join ", " ts) = true
  | [], _ => by rw [strOk_mem]; intro c hc; cases hc
  | [t], h => h t List.mem_cons_self
  | t :: u :: r, h => strOk_app (strOk_app (h t List.mem_cons_self) (strOk_lean ", ")) (join_ok (u :: r) fun v hv => h v (List.mem_cons_of_mem _ hv))
theorem listT_ok {ts : List Str} (h : ∀ t ∈ ts, PyData.strOk t = true) : PyData.strOk (listText ts) = true := strOk_app (from_ok ts 0 _ (strOk_lean "[") h) (strOk_lean "]")
theorem tupT_ok {ts : List Str} (h : ∀ t ∈ ts, PyData.strOk t = true) : PyData.strOk (tupleText ts) = true := by
  unfold tupleText
  exact strOk_app (strOk_app (strOk_lean "(") (join_ok ts h)) (strOk_lean _)
mutual
theorem shown_ok : ∀ (d : D) (p : PyData), toPy d = some p → p.canLay0 = true → PyData.strOk p.shown = true
  | .non, p, e, _ => by unfold toPy at e; cases e; exact strOk_lean "None"
  | .bl b, p, e, _ => by unfold toPy at e; cases e; cases b <;> exact strOk_lean _
  | .int i, p, e, _ => by unfold toPy at e; cases e; exact strOk_lean _
  | .str x, p, e, h => by unfold toPy at e; cases e; exact reprText_ok (by unfold PyData.canLay0 at h; exact h)
  | .lst ds, p, e, h => by
    unfold toPy at e
    cases q : toPyL ds with
    | none => rw [q] at e; cases e
    | some ps =>
      rw [q] at e; cases e
      unfold PyData.canLay0 at h
      unfold PyData.shown
      exact listT_ok (shown_okL ds ps q h)
  | .tup ds, p, e, h => by
    unfold toPy at e
    cases q : toPyL ds with
    | none => rw [q] at e; cases e
    | some ps =>
      rw [q] at e; cases e
      unfold PyData.canLay0 at h
      unfold PyData.shown
      exact tupT_ok (shown_okL ds ps q h)
  | .tpx ds, p, e, h => by
    unfold toPy at e
    cases q : toPyL ds with
    | none => rw [q] at e; cases e
    | some ps =>
      rw [q] at e; cases e
      unfold PyData.canLay0 at h
      unfold PyData.shown
      exact tupT_ok (shown_okL ds ps q h)
  | .dic ks vs, p, e, _ => by unfold toPy at e; cases e
  | .dct ks vs, p, e, _ => by unfold toPy at e; cases e
  | .obj c ks vs, p, e, _ => by unfold toPy at e; cases e
  | .scr c, p, e, _ => by unfold toPy at e; cases e
  | .rng b c, p, e, _ => by unfold toPy at e; cases e
theorem shown_okL : ∀ (ds : List D) (ps : List PyData), toPyL ds = some ps → PyData.canLayAll0 ps = true → ∀ t ∈ PyData.shownAll ps, PyData.strOk t = true
  | [], ps, e, _ => by unfold toPyL at e; cases e; intro t ht; cases ht
  | d :: ds, ps, e, h => by
    unfold toPyL at e
    cases q1 : toPy d with
    | none => rw [q1] at e; cases e
    | some p1 =>
      cases q2 : toPyL ds with
      | none => rw [q1, q2] at e; cases e
      | some ps1 =>
        rw [q1, q2] at e
        cases e
        unfold PyData.canLayAll0 at h
        rw [Bool.and_eq_true] at h
        intro t ht
        unfold PyData.shownAll at ht
        rcases List.mem_cons.mp ht with k | k
        · rw [k]; exact shown_ok d p1 q1 h.1
        · exact shown_okL ds ps1 q2 h.2 t k
end
/-! ### repr(x) -/
def rReprA (K : PySem.W.Frag) : List V → Hp → VK → Prop := fun xs H Q => ∃ x p, xs = [x] ∧ Dp K H x p ∧ p.canLay0 = true ∧ p.showable = true ∧ p.depth ≤ 64 ∧ p.shown.length ≤ sizeLine ∧ Q (.str p.shown) H
def reprD (d : D) : Option D := match toPy d with
  | some p => if p.showable = true ∧ p.depth ≤ 64 ∧ p.shown.length ≤ sizeLine then some (.str p.shown) else none
  | none => none
end DM
end
section
set_option autoImplicit false
set_option Elab.async false
set_option linter.all false
set_option maxRecDepth 100000
set_option maxHeartbeats 4000000
/-! DM42: pieces: plain mathematics; texts of lists of words. -/
namespace DM
open PySem L2
section
variable {nb nb' : Str → Str → Bool} {ps : List Str}
/-- in one piece -/
noncomputable def cmpB (nb : Str → Str → Bool) (ps : List Str) (p x : Str) : Bool := @decide (Rch nb (fun z => z ∈ ps) p x) (Classical.propDecidable _)
theorem cmpB_iff {p x : Str} : cmpB nb ps p x = true ↔ Rch nb (fun z => z ∈ ps) p x := by unfold cmpB; exact @decide_eq_true_iff _ (Classical.propDecidable _)
noncomputable def clsL (nb : Str → Str → Bool) (ps : List Str) (p : Str) : List Str := ps.filter (cmpB nb ps p)
/-- the pieces, one after the other -/
def pcsL (cl : Str → List Str) : List Str → List (List Str) → List (List Str)
  | [], f => f
  | p :: r, f => if f.any (fun q => decide (p ∈ q)) = true then pcsL cl r f else pcsL cl r (f ++ [cl p])
noncomputable def pieces (nb : Str → Str → Bool) (ps : List Str) : List (List Str) := pcsL (clsL nb ps) ps []
theorem mem_cls {p x : Str} : x ∈ clsL nb ps p ↔ x ∈ ps ∧ Rch nb (fun z => z ∈ ps) p x := by
  unfold clsL
  rw [List.mem_filter, cmpB_iff]
theorem self_cls {p : Str} (h : p ∈ ps) : p ∈ clsL nb ps p := mem_cls.mpr ⟨h, .refl⟩
theorem cls_eq (sy : ∀ x y, nb x y = nb y x) {p q : Str} (hp : p ∈ ps) (hq : q ∈ clsL nb ps p) : clsL nb ps q = clsL nb ps p := by
  obtain ⟨hq1, hq2⟩ := mem_cls.mp hq
  unfold clsL
  refine List.filter_congr fun x hx => ?_
  rw [Bool.eq_iff_iff, cmpB_iff, cmpB_iff]
  exact ⟨fun h => hq2.trans h, fun h => (hq2.symm sy hp).trans h⟩
/-- what is true of the pieces found so far -/
structure PcsOk (nb : Str → Str → Bool) (ps : List Str) (f : List (List Str)) : Prop where
  cl : ∀ q ∈ f, ∃ p ∈ ps, q = clsL nb ps p
  nd : f.flatten.Nodup
theorem cls_nd (hn : ps.Nodup) {p : Str} : (clsL nb ps p).Nodup := List.Pairwise.filter _ hn
theorem pcs_ok (sy : ∀ x y, nb x y = nb y x) (hn : ps.Nodup) : ∀ (l : List Str) (f : List (List Str)), (∀ x ∈ l, x ∈ ps) → PcsOk nb ps f →
    PcsOk nb ps (pcsL (clsL nb ps) l f) ∧ (∀ x ∈ l, ∃ q ∈ pcsL (clsL nb ps) l f, x ∈ q) ∧ ∀ q ∈ f, q ∈ pcsL (clsL nb ps) l f
  | [], f, _, h => ⟨h, (fun x hx => nomatch hx), fun q hq => hq⟩
  | p :: r, f, hl, h => by
    have hr : ∀ x ∈ r, x ∈ ps := fun x hx => hl x (List.mem_cons_of_mem _ hx)
    have hp := hl p List.mem_cons_self
    unfold pcsL
    split
    · rename_i k
      obtain ⟨q, hq, hpq⟩ := List.any_eq_true.mp k
      obtain ⟨k1, k2, k3⟩ := pcs_ok sy hn r f hr h
      refine ⟨k1, fun x hx => ?_, k3⟩
      rcases List.mem_cons.mp hx with e | e
      · subst e
        exact ⟨q, k3 q hq, by simpa using hpq⟩
      · exact k2 x e
    · rename_i k
      have new : PcsOk nb ps (f ++ [clsL nb ps p]) := by
        refine ⟨fun q hq => ?_, ?_⟩
        · rcases List.mem_append.mp hq with z | z
          · exact h.cl q z
          · rw [List.mem_singleton.mp z]; exact ⟨p, hp, rfl⟩
        · rw [List.flatten_append, List.flatten_singleton]
          refine List.nodup_append.mpr ⟨h.nd, cls_nd hn, fun x hx y hy e => ?_⟩
          subst e
          obtain ⟨q, hq, hxq⟩ := List.mem_flatten.mp hx
          obtain ⟨p', hp', rfl⟩ := h.cl q hq
          refine k (List.any_eq_true.mpr ⟨_, hq, ?_⟩)
          have e1 := cls_eq sy hp' hxq
          have e2 := cls_eq sy hp hy
          have e3 : clsL nb ps p = clsL nb ps p' := e2.symm.trans e1
          simpa [← e3] using self_cls (nb := nb) hp
      obtain ⟨k1, k2, k3⟩ := pcs_ok sy hn r _ hr new
      refine ⟨k1, fun x hx => ?_, fun q hq => k3 q (List.mem_append_left _ hq)⟩
      rcases List.mem_cons.mp hx with e | e
      · subst e
        exact ⟨_, k3 _ (List.mem_append_right _ List.mem_cons_self), self_cls hp⟩
      · exact k2 x e
theorem pieces_ok (sy : ∀ x y, nb x y = nb y x) (hn : ps.Nodup) : PcsOk nb ps (pieces nb ps) ∧ ∀ x ∈ ps, ∃ q ∈ pieces nb ps, x ∈ q := by
  obtain ⟨a, b, _⟩ := pcs_ok (nb := nb) sy hn ps [] (fun _ h => h) ⟨fun q hq => (nomatch hq), List.nodup_nil⟩
  exact ⟨a, b⟩
theorem pieces_sum (sy : ∀ x y, nb x y = nb y x) (hn : ps.Nodup) : ((pieces nb ps).map (·.length)).sum = ps.length := by
  obtain ⟨h1, h2⟩ := pieces_ok (nb := nb) sy hn
  rw [← List.length_flatten]
  refine ((List.perm_ext_iff_of_nodup h1.nd hn).mpr fun x => ?_).length_eq
  constructor
  · intro h
    obtain ⟨q, hq, hx⟩ := List.mem_flatten.mp h
    obtain ⟨p, hp, rfl⟩ := h1.cl q hq
    exact (mem_cls.mp hx).1
  · intro h
    obtain ⟨q, hq, hx⟩ := h2 x h
    exact List.mem_flatten.mpr ⟨q, hq, hx⟩
theorem cls_filter {p : Str} : ps.filter (fun x => decide (x ∈ clsL nb ps p)) = clsL nb ps p := by
  conv => rhs; unfold clsL
  refine List.filter_congr fun x hx => ?_
  rw [Bool.eq_iff_iff, decide_eq_true_iff, mem_cls, cmpB_iff]
  exact ⟨fun h => h.2, fun h => ⟨hx, h⟩⟩
end
/-! ### the text of a list of rows of words -/
abbrev rowT (l : List Str) : D := .tup (l.map .str)
end DM
end
section
set_option autoImplicit false
set_option Elab.async false
set_option linter.all false
set_option maxRecDepth 100000
set_option maxHeartbeats 4000000
/-! DM43: tuples whose object is known; t.index(x). -/
namespace DM
open PySem PySem.Spec PyProof.Rows L2
section
variable {X : Cx} {e o : Expr} {es : List Expr} {to : TE} {t : TA} {pos apos cpos : Pos} {name : Str} {id : String} {r : V → List V → Hp → VK → Prop}
def tTupF (t : TA) : TE := fun σ H Q => t σ H fun xs H1 => xs.length ≤ sizeLine ∧ ∀ p ob, (ob.cls = .type "tuple" ∧ ob.dict = none) → H1 p = none → Q (.ref p) (upd H1 p (.frz ob (.tup xs)))
def tBMF (r : V → List V → Hp → VK → Prop) (to : TE) (t : TA) : TE := fun σ H Q => to σ H fun x H1 => (∃ a ob xs, x = V.ref a ∧ H1 a = some (.frz ob (.tup xs)) ∧ ob.cls = .type "tuple" ∧ ob.dict = none) ∧ t σ H1 fun ys H2 => r x ys H2 Q
end
def eTupX (m : M (List D)) : M D := bindM m fun ds => fun ρ => if ds.length ≤ sizeLine then .ok (.tpx ds) ρ else .bad
section
variable {T : Ct} {G G1 G2 G3 G' : List Md} {pos : Pos}
end
/-! ### t.index(x), a tuple of texts -/
def idxT (l : List D) (d : D) : Option Nat := match strsD l, d with
  | some ys, .str z => if z ∈ ys then some (ys.idxOf z) else none
  | _, _ => none
def tpxD : D → Option (List D)
  | .tpx l => some l
  | _ => none
def ixT : Option (List D) → Option D → DEnv → R D
  | some l, some d, ρ => (match idxT l d with
    | some j => .ok (.int (j : Nat)) ρ
    | none => .bad)
  | _, _, _ => .bad
def mIndexT (mo : M Opn) (ma : M (List Opn)) : M D := bindM mo fun o => fun ρ => match (resO ρ o).bind tpxD with
  | some _ => bindM ma (fun os ρ => ixT ((resO ρ o).bind tpxD) ((o1 os).bind (resO ρ)) ρ) ρ
  | none => .bad
section
variable {T : Ct} {G G1 G2 G3 G' : List Md} {pos : Pos}
end
end DM
end
section
set_option autoImplicit false
set_option Elab.async false
set_option linter.all false
set_option maxRecDepth 100000
set_option maxHeartbeats 4000000
/-! DM44: how runs with stars, .get, .index of a tuple, len(set(..)) end; dicts by their rows. -/
namespace DM
open PySem L2
section
variable {α β : Type} {ρ : DEnv} {E : ExK}
def szO (ds : List D) : Option Unit := if ds.length ≤ sizeLine then some () else none
theorem szO_is {ds : List D} (h : ds.length ≤ 100000) : szO ds = some () := by unfold szO; rw [if_pos (sizeLine_big h)]
theorem szO_le {ds : List D} {u : Unit} (h : szO ds = some u) : ds.length ≤ sizeLine := by
  unfold szO at h
  split at h
  · assumption
  · cases h
theorem W_star {f : M Opn} {m : M (List D)} {Q : List D → DEnv → Prop} (h : We (f ρ) (fun o ρ1 => Sm (resO ρ1 o) fun d => Sm (memsD d) fun l => We (m ρ1) (fun ds ρ2 => Q (l ++ ds) ρ2) E) E) : We (xStar f m ρ) Q E :=
  W_bind (h.mono fun o ρ1 ⟨d, e1, l, e2, z⟩ => by
    (try dsimp only); rw [e1, Option.bind_some, e2]
    exact W_bind (z.mono fun _ _ z => We.ok z))
theorem W_lstS {m : M (List D)} {Q : D → DEnv → Prop} (h : We (m ρ) (fun ds ρ1 => Sm (szO ds) fun _ => Q (.lst ds) ρ1) E) : We (eLstS m ρ) Q E := W_bind (h.mono fun ds ρ1 ⟨_, e, z⟩ => by
  (try dsimp only); rw [if_pos (szO_le e)]; exact We.ok z)
end
/-! ### dicts by their rows: texts to values -/
section
variable {β : Type} {g : β → D} {ws : List (Str × β)} {q : Str} {w : β} {n : Bool}
def dicA (g : β → D) (ws : List (Str × β)) : D := .dic (ws.map fun p => .inr p.1) (ws.map fun p => g p.2)
end
/-! ### the first thing is taken off; a tuple whose object is known -/
section
variable {α : Type} {f : α → D} {l : List α} {n : Nat} {a : Str} {r : List Str} {b : Bool}
end
end DM
end
section
set_option autoImplicit false
set_option Elab.async false
set_option linter.all false
set_option maxRecDepth 100000
set_option maxHeartbeats 4000000
/-! DM45: dict(zip(xs, ys)) over lists and tuples. -/
namespace PySem
open Sem (wp)
section
variable {prog : Program} {w : World} {A : Around} {E : Value → Shared → Prop} {s : Shared} {z TI TO T i1 i2 : Addr} {fp1 fp2 : List Addr} {n1 n2 i : Nat} {P1 P2 : Nat → Value → Prop} {St1 St2 : Nat → Heap → Prop} {a1 a2 : Value} {f : Bool} {oT : Obj}
end
section
variable {prog : Program} {w : World} {A : Around} {E : Value → Shared → Prop} {s : Shared} {z TI TO T i1 i2 : Addr} {fp1 fp2 : List Addr} {n1 n2 i : Nat} {P1 P2 : Nat → Value → Prop} {St1 St2 : Nat → Heap → Prop} {a1 a2 : Value} {f : Bool} {oT : Obj}
end
section
variable {prog : Program} {w : World}
end
end PySem
namespace DM
open PySem PySem.Spec PyProof.Rows L2
def tDictZ (K : PySem.W.Frag) (ta : TA) : TE := fun σ H Q => ta σ H fun vs H1 => ∃ (a b : Addr) (ys : List V) (ks : List Key), vs = [.ref a, .ref b] ∧ (SqL K H1 a (ks.map kV) ∨ SqT K H1 a (ks.map kV)) ∧ (SqL K H1 b ys ∨ SqT K H1 b ys) ∧ ks.length = ys.length ∧ ∀ p, H1 p = none → Q (.ref p) (upd H1 p (.dK (mergeK [] (ks.zip ys))))
section
variable {X : Cx} {ta : TA} {e1 e2 : Expr} {p1 p2 pos1 pos2 : Pos}
end
end DM
end
section
set_option autoImplicit false
set_option Elab.async false
set_option linter.all false
set_option maxRecDepth 100000
set_option maxHeartbeats 4000000
/-! DM46: copies of dicts, dicts of pairs, update, stores to many keys. -/
namespace DM
open PySem PySem.Spec PyProof.Rows L2

/-- later pairs win -/
def mrgD : List Key → List D → List Key → List D → List Key × List D
  | ks, vs, k :: r, d :: t => mrgD (putKs ks k) (putVs ks vs k d) r t
  | ks, vs, _, _ => (ks, vs)
/-! ### dict(d) -/
def copyD : D → Option D
  | .dic ks vs => some (.dic ks vs)
  | _ => none
/-! ### dict(zip(a, b)) -/
def dzSeq : D → Option (List D)
  | .lst l => some l
  | .tup l => some l
  | _ => none
def dzipD (a b : D) : Option D := match dzSeq a, dzSeq b with
  | some l, some m => (match keysOf l with
    | some ks => if ks.length = m.length then some (.dic (mrgD [] [] ks m).1 (mrgD [] [] ks m).2) else none
    | none => none)
  | _, _ => none
def rDictZ (K : PySem.W.Frag) : List V → Hp → VK → Prop := fun vs H1 Q => ∃ (a b : Addr) (ys : List V) (ks : List Key), vs = [.ref a, .ref b] ∧ (SqL K H1 a (ks.map kV) ∨ SqT K H1 a (ks.map kV)) ∧ (SqL K H1 b ys ∨ SqT K H1 b ys) ∧ ks.length = ys.length ∧ ∀ p, H1 p = none → Q (.ref p) (upd H1 p (.dK (mergeK [] (ks.zip ys))))
/-! ### dict([(k, v), ..]) -/
def pairsOf : List D → Option (List D × List D)
  | [] => some ([], [])
  | .tup [k, v] :: r => (pairsOf r).map fun p => (k :: p.1, v :: p.2)
  | _ => none
def dictPD : D → Option D
  | .lst l => (match pairsOf l with
    | some p => (match keysOf p.1 with
      | some ks => some (.dic (mrgD [] [] ks p.2).1 (mrgD [] [] ks p.2).2)
      | none => none)
    | none => none)
  | _ => none
section
variable {T : Ct} {G G1 G2 G' : List Md} {pos p p2 pos2 : Pos} {m : M (List Opn)}
end
end DM
end
section
set_option autoImplicit false
set_option Elab.async false
set_option linter.all false
set_option maxRecDepth 100000
set_option maxHeartbeats 4000000
/-! DM47: d.update(e), d[k], .. = .. -/
namespace DM
open PySem PySem.Spec PyProof.Rows L2

def rDUpd : V → List V → Hp → VK → Prop := fun x xs H Q => ∃ (a b : Addr) (kvs more : List (Key × V)), x = .ref a ∧ xs = [.ref b] ∧ a ≠ b ∧ H a = some (.dK kvs) ∧ H b = some (.dK more) ∧ kvs.length + more.length ≤ sizeLine ∧ Q .non (upd H a (.dK (mergeK kvs more)))
def dicOf : Option D → Option (List Key × List D)
  | some (.dic ks vs) => some (ks, vs)
  | _ => none
def callDUpd (i : Nat) (m : M (List D)) : M D := fun ρ => match dicOf (ρ[i]?).join with
  | none => .bad
  | some _ => bindM m (fun args ρ => match dicOf (ρ[i]?).join with
    | some p => (match dicOf args.head? with
      | some q => if args.length = 1 ∧ p.2.length + q.2.length ≤ sizeLine then .ok .non (ρ.set i (some (.dic (mrgD p.1 p.2 q.1 q.2).1 (mrgD p.1 p.2 q.1 q.2).2))) else .bad
      | none => .bad)
    | none => .bad) ρ
section
variable {T : Ct} {S : Gs} {G G1 G2 G' : List Md} {pos : Pos} {F F1 F' H H1 H' : Hp} {U U1 : List Addr} {σ : Sl} {ρ : DEnv} {fps fps1 : List (List Addr)} {ex : List Addr} {C : Cl} {pin : List (Nat × V)}
/-! ### d[k], d[l] = .. -/
def gSubs (i : Nat) : List Str → TGs
  | [] => gNil
  | k :: ks => gCons (gSub (tVar i) (tC (.str k)) rSetD) (gSubs i ks)
inductive PSubs (X : Cx) (x : Str) : List Expr → List Str → Prop
  | nil : PSubs X x [] []
  | cons {k : Str} {jj : Nat} {xp kp tp : Pos} {es : List Expr} {ks : List Str} (hr : PSubs X x es ks)
      (hg : ∀ v, assign (.Subscript (.Name x xp) (.Constant (.str k) jj kp) tp) X.env v = (do
        let ov ← holding [v] (eval (.Name x xp) X.env)
        let iv ← holding [v, ov] (eval (.Constant (.str k) jj kp) X.env)
        standAt tp
        holding [v, ov, iv] (setItem ov iv v)
        release [v, ov, iv] []) := by intro _; rfl)
      (hs : (assignEach (.Subscript (.Name x xp) (.Constant (.str k) jj kp) tp :: es) X.env).map (·.2) = assign (.Subscript (.Name x xp) (.Constant (.str k) jj kp) tp) X.env :: (assignEach es X.env).map (·.2) := by rfl) :
      PSubs X x (.Subscript (.Name x xp) (.Constant (.str k) jj kp) tp :: es) (k :: ks)
theorem PSubs.pg {X : Cx} {x : Str} {i : Nat} (hu : X.A.units + 1 < cLine) (hN : X.N[i]? = some x) (hv : Vis X.env.scope x) (hd : (x == ("__debug__" : Str)) = false) (hcd : (x == ("__classdict__" : Str)) = false) : ∀ {es : List Expr} {ks : List Str}, PSubs X x es ks → PGs X es (gSubs i ks)
  | _, _, .nil => pgs_nil
  | _, _, .cons hr hg hs => pgs_cons (pg_sub (pe_var hN hv hd hcd) pe_str (set_dict hu) hg) (PSubs.pg hu hN hv hd hcd hr) hs
def putAllD : D → List Str → List D → Option D
  | d, [], [] => some d
  | d, k :: ks, v :: vs => (dputD d (.str k) v).bind fun d' => putAllD d' ks vs
  | _, _, _ => none
def sDputs (i : Nat) (ks : List Str) (f : M D) : M Fl := bindM f fun d => fun ρ => match tupOf ks.length d with
  | some ds => (match (ρ[i]?).join with
    | some d0 => (match putAllD d0 ks ds with
      | some d' => .ok .nx (ρ.set i (some d'))
      | none => .bad)
    | none => .bad)
  | none => .bad
end
end DM
end
section
set_option autoImplicit false
set_option Elab.async false
set_option linter.all false
set_option maxRecDepth 100000
set_option maxHeartbeats 4000000
/-! DM48: a return where more is owned. -/
namespace DM
open PySem PySem.Spec PyProof.Rows L2
section
variable {T : Ct} {S : Gs} {G G1 G' : List Md} {pos : Pos} {e : Expr}
end
end DM
end
section
set_option autoImplicit false
set_option Elab.async false
set_option linter.all false
set_option maxRecDepth 100000
set_option maxHeartbeats 4000000
/-! DM49: tuple(l) whose object is known; list of it. -/
namespace DM
open PySem PySem.Spec PyProof.Rows L2
def rTupF (K : PySem.W.Frag) : List V → Hp → VK → Prop := fun xs H Q => ∃ p ys, xs = [.ref p] ∧ SqL K H p ys ∧ ∀ l ob, (ob.cls = .type "tuple" ∧ ob.dict = none) → H l = none → Q (.ref l) (upd H l (.frz ob (.tup ys)))
def tplXD : D → Option D
  | .lst l => some (.tpx l)
  | _ => none
def listXD : D → Option D
  | .lst l => some (.lst l)
  | .tup l => some (.lst l)
  | .tpx l => some (.lst l)
  | _ => none
section
variable {T : Ct} {G G1 G2 G' : List Md} {F F1 F' H H1 H' : Hp} {σ : Sl} {ρ : DEnv} {fps fps1 : List (List Addr)} {ex : List Addr} {C : Cl}
end
end DM
end
section
set_option autoImplicit false
set_option Elab.async false
set_option linter.all false
set_option maxRecDepth 100000
set_option maxHeartbeats 4000000
/-! DM50: rules of the pure part for update, stores to many keys; places. -/
namespace DM
open PySem L2
section
variable {ρ : DEnv} {E : ExK}
def dupdD (p : List Key × List D) (args : List D) : Option D := match dicOf args.head? with
  | some q => if args.length = 1 ∧ p.2.length + q.2.length ≤ sizeLine then some (.dic (mrgD p.1 p.2 q.1 q.2).1 (mrgD p.1 p.2 q.1 q.2).2) else none
  | none => none
end
/-! ### where each stands -/
def placeS (ths f : List Str) : D := .dic (ths.map .inr) (f.map .str)
def plc (ths f : List Str) (t : Str) : Str := f.getD (ths.idxOf t) ""
/-- one is put elsewhere -/
def putF (f : List Str) (n : Nat) (p : Str) : List Str := f.take n ++ [p] ++ f.drop (n + 1)
end DM
end
section
set_option autoImplicit false
set_option Elab.async false
set_option linter.all false
set_option maxRecDepth 100000
set_option maxHeartbeats 4000000
/-! DM51: a list told apart by names. -/
namespace DM
open PySem PySem.Spec PyProof.Rows L2
def bLst (bs : List Bd) : Bd := fun d ρ => match d with
  | .lst ds => bAll bs ds ρ
  | _ => none
section
variable {T : Ct} {G G1 G2 G' : List Md} {pos : Pos}
end
end DM
end
section
set_option autoImplicit false
set_option Elab.async false
set_option linter.all false
set_option maxRecDepth 100000
set_option maxHeartbeats 4000000
/-! DM52: the text of prices and steps. -/
namespace DM
open PySem L2
def small (i : Int) : Prop := i.natAbs < 10 ^ 18
def pairP (s : Str × Str) : PyData := .tuple [.str s.1, .str s.2]
end DM
end
section
set_option autoImplicit false
set_option Elab.async false
set_option linter.all false
set_option maxRecDepth 100000
set_option maxHeartbeats 4000000
/-! DM53: == of dicts that hold the same. -/
namespace DM
open PySem PySem.Spec PyProof.Rows L2
/-- data of that depth at most, dicts and what is plain -/
def eqT : Nat → D → Bool
  | _, .bl _ => true
  | _, .int _ => true
  | _, .str _ => true
  | _, .non => true
  | n + 1, .dic _ vs => vs.all (eqT n)
  | _, _ => false
/-- d == e, two dicts that hold the same -/
def rEqDic (n : Nat) : R2 := fun x y H Q => ∃ (C : Cl) (F : Hp) (ks : List Key) (vs : List D) (a b : Addr) (xs ys : List V), x = .ref a ∧ y = .ref b ∧ Rd H a (.dK (ks.zip xs)) ∧ RepL C F vs xs ∧ ks.length = vs.length ∧ Rd H b (.dK (ks.zip ys)) ∧ RepL C F vs ys ∧
  vs.all (eqT n) = true ∧ DM.Sub F H ∧ Q (.bl true) H
noncomputable def eqDD (d e : D) : Option D := match d, e with
  | .dic ks vs, .dic ks' vs' => if ks = ks' ∧ vs = vs' ∧ vs.all (eqT 8) = true then some (.bl true) else none
  | _, _ => none
end DM
end
section
set_option autoImplicit false
set_option Elab.async false
set_option linter.all false
set_option maxRecDepth 100000
set_option maxHeartbeats 4000000
/-! DM54: x == y by the text's own __eq__. -/
namespace DM
open PySem PySem.Spec PyProof.Rows L2
section
variable {X : Cx} {CX : CXT} {k : Nat} {f C : Addr} {fd : FuncData} {ps : List Str} {sp : Sp} {E : L2.St → XK} {pos : Pos} {o e : Expr} {ta tb : TE}
def tEqO (neg : Bool) (C : Addr) (sp : Sp) (E : L2.St → XK) (ta tb : TE) : TE := fun σ H Q => ta σ H fun x H1 => tb σ H1 fun y H2 => ∃ a b dx dy fs gs, x = .ref a ∧ y = .ref b ∧ H2 a = some (.ins C dx fs) ∧ H2 b = some (.ins C dy gs) ∧
  sp [.ref a, .ref b] H2 (fun v H' => ∃ j, v = .bl j ∧ Q (.bl (j != neg)) H') (E σ)
end
def mEqO (c : String) (g : Sig) (neg : Bool) (mo me : M Opn) : M D := bindM mo fun o1 => bindM me fun o2 => fun ρ => match (resO ρ o1).bind (isObj c "__eq__"), (resO ρ o2).bind (isObj c "__eq__") with
  | some _, some _ => bindM (callB g none [o1, o2]) (fun d ρ => match d with
    | .bl j => .ok (.bl (j != neg)) ρ
    | _ => .bad) ρ
  | _, _ => .bad
section
variable {α β γ δ : Type} {T : Ct} {G G1 G2 G3 G' : List Md} {F F1 F2 F' H H1 H2 H' : Hp} {U U1 U2 U' : List Addr} {σ : Sl} {ρ ρ1 : DEnv} {fps fps1 : List (List Addr)} {ex fp1 : List Addr} {pos : Pos}
theorem remSeq {rr1 : RRel α β} {rr3 : RRel γ δ} {f : M α} {g : α → M γ} {Q : δ → Hp → Prop} {K : β → Hp → Prop} (m : Rem T G2 rr3 (bindM f g ρ) F H fps ex σ Q)
    (k : ∀ a x F1 H1 ρ1 fps1 fp1, DM.Ext F H fps.flatten F1 H1 (fp1 ++ fps1.flatten) → Rel T.C T.pin G1 F1 H1 σ ρ1 fps1 (fp1 ++ ex) → rr1 a σ F1 H1 fps1.flatten x fp1 → Rem T G2 rr3 (g a ρ1) F1 H1 fps1 (fp1 ++ ex) σ Q → K x H1) : Rem T G1 rr1 (f ρ) F H fps ex σ K := by
  unfold bindM at m
  cases q : f ρ with
  | ok a ρ1 =>
    rw [q] at m
    intro v F' H' fps' fp e r' z
    exact k a v F' H' ρ1 fps' fp e r' z (Rem.step m e)
  | ex c ns vs ρ1 =>
    rw [q] at m
    exact m
  | bad => rw [q] at m; exact m
end
end DM
end
section
set_option autoImplicit false
set_option Elab.async false
set_option linter.all false
namespace DM
open PySem L2
def visB (sc : Scope) (x : Str) : Bool := match sc.names.lookup x with
  | some .local => true
  | some .cell => true
  | some .free => true
  | _ => false
def locB (sc : Scope) (x : Str) : Bool := match sc.names.lookup x with
  | some .local => true
  | some .cell => true
  | _ => false
end DM
end
section
set_option autoImplicit false
set_option Elab.async false
set_option linter.all false
set_option maxRecDepth 100000
set_option maxHeartbeats 4000000
/-! DM56: x != y by the text's own __eq__. -/
namespace DM
open PySem PySem.Spec PyProof.Rows L2
/-- objects of the class at C have f for ==, and no own != -/
structure NeOk (K : PySem.W.Frag) (C f : Addr) : Prop where
  ex : ∃ (B : String) (bm : List Value), PySem.CmpFacts B bm ∧ ∀ (h : Heap), K.In h → ∀ (x : Addr) (o : Obj), h.get? x = some o → o.cls = .ref C → PySem.Heap.OwnEqNoNe h x C f B bm
section
variable {X : Cx} {CX : CXT} {k : Nat} {f C : Addr} {fd : FuncData} {ps : List Str} {sp : Sp} {E : L2.St → XK} {pos : Pos} {o e : Expr} {ta tb : TE}
end
/-- own == with no own != -/
structure MtN (P : Program) (w : World) (K : PySem.W.Frag) (mg : Str → Option Value) (base : Heap) (C : Cl) (c : String) (k : Nat) (g : Sig) : Prop where
  ex : ∃ (A f : Addr) (fd : FuncData) (ps : List Str), C.cl c = some A ∧ NeOk K A f ∧ FnG P w K mg base (L2.CX P w) k f fd ps (spOf C g) ∧ Binds K fd ps []
section
variable {α β γ δ : Type} {T : Ct} {G G1 G2 G3 G' : List Md} {F F1 F2 F' H H1 H2 H' : Hp} {U U1 U2 U' : List Addr} {σ : Sl} {ρ ρ1 : DEnv} {fps fps1 : List (List Addr)} {ex fp1 : List Addr} {pos : Pos}
end
end DM
end
section
set_option autoImplicit false
set_option Elab.async false
set_option linter.all false
set_option maxRecDepth 100000
set_option maxHeartbeats 4000000
/-! DM57: != by the text's own ==, read from the table of objects. -/
namespace DM
open PySem PySem.W PySem.Spec PyProof.Rows
open Sem (wp)
section
variable {M : Model} {A : Around} {E : Value → Shared → Prop} {s : Shared} {K : Frag} {x C f : Addr} {ox : Obj} {od : Option Obj} {name : Str} {id owner n : String}
theorem ifBoundB {args : List Value} {Q : Option Value → Shared → Prop} (X : K.In s.heap) (I : InstAt s.heap x ox C od) (hs : findIn K (.ref C) name = some (some (.builtin id))) (hb : bindSpecial (.builtin id) (.ref x) = pure (.builtin id, [.ref x]))
    (h : wpAny M A (call (.builtin id) (.ref x :: args)) (fun v => Q (some v)) E s) : wpAny M A (callSpecialIfBound? (.ref x) name args) Q E s := by
  simp only [callSpecialIfBound?, bindSpecialIfBound?]
  refine wpAny_holding (wpAny_bind (wpAny_bind (wpAny_bind (I.type.here ((looks_findIn X hs).here ?_)))))
  refine wpAny_bind (wpAny_askSetting (wpAny_ite ?_))
  have fin : wpAny M A (call (.builtin id) ([.ref x] ++ args) >>= fun v => pure (some v)) Q E s := wpAny_bind (wpAny_mono h (fun v s' h' => wpAny_pure h') fun _ _ h' => h')
  split
  · rw [hb]; exact wpAny_bind (wpAny_pure (wpAny_pure (by exact fin)))
  · rw [hb]; exact wpAny_tryCatch (wpAny_bind (wpAny_pure (wpAny_pure (by exact fin))))
theorem check_K {rest : List Value} {Q : Unit → Shared → Prop} (hk : builtinKind id = some .slot) (hs : splitId id = some (owner, n)) (ha : argsOk id ⟨.ref x :: rest, []⟩) (hi : Looks M s.heap (isInstance (.ref x) (.type owner)) true) (hq : Q () s) :
    wpAny M A (checkBuiltinCall id ⟨.ref x :: rest, []⟩) Q E s := by
  simp only [checkBuiltinCall, hk, hs]
  refine wpAny_bind (hi.here ?_)
  (try simp only [Bool.not_true, Bool.false_eq_true, if_false])
  (try refine wpAny_bind (wpAny_pure ?_))
  cases hsig : Manifest.signature? id with
  | none => exact wpAny_pure hq
  | some sig =>
    simp only [argsOk, hsig] at ha
    have h2 : Bind.checkArgs id sig ⟨.ref x :: rest, []⟩ = pure () := ha
    show wpAny M A (Bind.checkArgs id sig ⟨.ref x :: rest, []⟩) Q E _
    rw [h2]; exact wpAny_pure hq
end
section
variable {prog : Program} {w : World} {A : Around} {E : Value → Shared → Prop} {s : Shared} {K : Frag} {x y C f : Addr} {ox oy : Obj} {od od' : Option Obj}
theorem ne_K (X : K.In s.heap) (I : InstAt s.heap x ox C od) (I' : InstAt s.heap y oy C od') (hne : findIn K (.ref C) "__ne__" = some (some (.builtin "object.__ne__"))) (heq : findIn K (.ref C) "__eq__" = some (some (.ref f))) (hf : isFn K (.ref f) = true)
    (hob : subIn K (.ref C) (.type "object") = some true) (hu : A.units + 1 < cLine) {Q : Value → Shared → Prop}
    (hcall : wpAny (model prog w) A.in1 (call (.ref f) [.ref x, .ref y]) (fun v s' => ∃ b, v = .bool b ∧ Q (.bool (!b)) s') E s) : wpAny (model prog w) A (compareOp .NotEq (.ref x) (.ref y)) Q E s := by
  have hi : Looks (model prog w) s.heap (isInstance (.ref x) (.type "object")) true := I.type.andThen (looks_subIn X hob)
  have one : wpAny (model prog w) A (tryCompare (.ref x) "__ne__" (.ref y)) (fun r s' => ∃ v, r = some v ∧ Q v s') E s := by
    unfold tryCompare
    refine wpAny_bind (ifBoundB X I hne (PySem.F.cmp_object.ne.bind _) (wpAny_call (codeAny_call_builtin PySem.F.cmp_object.ne.plain PySem.F.cmpEntry_ne (check_K PySem.F.cmpKind_ne PySem.F.cmpSplit_ne (PySem.F.cmpArgs_ne _ _) hi ?_))))
    show wpAny _ A.in1 (Builtin.«object.__ne__» ⟨[.ref x, .ref y], []⟩) _ _ s
    unfold Builtin.«object.__ne__»
    repeat (first
      | with_reducible refine wpAny_cRoomFor (A := A.in1) hu ?_
      | (refine wpAny_bind (m := callSpecialIfBound? (.ref x) (Str.ofString "__eq__") [.ref y])
          (ifBound_K X I heq hf (wpAny_mono hcall (fun r s' hr => by
            obtain ⟨b, rfl, hq⟩ := hr
            have hq : (fun r s' => ∃ v, r = some v ∧ Q v s') (some (.bool (!b))) s' := ⟨_, rfl, hq⟩
            repeat (first | exact ⟨_, rfl, wpAny_pure hq⟩ | exact wpAny_pure hq | exact wpAny_truthy_bool hq | (refine wpAny_bind (m := truthy (.bool _)) (wpAny_truthy_bool ?_)) | wp_step)) fun _ _ e => e)))
      | wp_step)
  show wpAny _ _ (richCompare .NotEq (.ref x) (.ref y)) _ _ _
  unfold richCompare
  simp only [oneThing_ref]
  refine wpAny_holding (wpAny_bind (wpAny_cRoomFor (Nat.lt_of_succ_lt hu) ?_))
  refine wpAny_bind (I.type.here (wpAny_bind (I'.type.here ?_)))
  rw [show (Value.ref C != Value.ref C) = false from by simp]
  simp only [Bool.false_eq_true, if_false]
  refine wpAny_bind (wpAny_pure ?_)
  simp only [Bool.false_eq_true, if_false]
  refine wpAny_bind (wpAny_mono one (fun v s' hv => ?_) fun _ _ e => e)
  obtain ⟨b, rfl, hq⟩ := hv
  exact wpAny_pure hq
end
end DM
end
section
set_option autoImplicit false
set_option Elab.async false
set_option linter.all false
set_option maxRecDepth 100000
set_option maxHeartbeats 4000000
/-! DM58: x != y by the text's own __eq__, from the table. -/
namespace DM
open PySem PySem.Spec PyProof.Rows L2
section
variable {X : Cx} {CX : CXT} {k : Nat} {f C : Addr} {fd : FuncData} {ps : List Str} {sp : Sp} {E : L2.St → XK} {pos : Pos} {o e : Expr} {ta tb : TE}
end
/-- a class with no own != -/
structure NeS (K : PySem.W.Frag) (C : Cl) (c : String) : Prop where
  ex : ∃ A, C.cl c = some A ∧ PySem.W.findIn K (.ref A) "__ne__" = some (some (.builtin "object.__ne__")) ∧ PySem.W.subIn K (.ref A) (.type "object") = some true
section
variable {α β γ δ : Type} {T : Ct} {G G1 G2 G3 G' : List Md} {F F1 F2 F' H H1 H2 H' : Hp} {U U1 U2 U' : List Addr} {σ : Sl} {ρ ρ1 : DEnv} {fps fps1 : List (List Addr)} {ex fp1 : List Addr} {pos : Pos}
end
end DM
end
section
set_option autoImplicit false
set_option Elab.async false
set_option linter.all false
set_option maxRecDepth 100000
set_option maxHeartbeats 4000000
/-! DM59: isinstance(x, C), C a class of the text. -/
namespace DM
open PySem PySem.Spec PyProof.Rows L2
def isiOD (c : String) : D → Option D
  | .obj c' _ _ => if c' = c then some (.bl true) else none
  | _ => none
structure IsS (K : PySem.W.Frag) (mg : Str → Option Value) (C : Cl) (x : Str) (c : String) : Prop where
  ex : ∃ A, mg x = some (.ref A) ∧ C.cl c = some A ∧ PySem.W.kitOne K (.ref A) (.ref A) = some true ∧ ∀ (H : Hp) (a dx : Addr) (fs : List (Str × V)), H a = some (.ins A dx fs) → TyOf K H (.ref a) (.ref A)
section
variable {T : Ct} {G G' : List Md}
theorem sv_isiO {e : Expr} {B : Option Nat} {m : M Opn} {n : Str} {c : String} {p p2 pos : Pos} (ok : T.Ok) (hg : Gl T.X "isinstance") (hm : T.X.mg "isinstance" = none) (he : SO T G e B G' m) (hg2 : Gl T.X n) (is : IsS T.X.K T.X.mg T.C n c)
    (kb : okB G' B = true := by rfl) (hd : (n == ("__debug__" : Str)) = false := by decide)
    (hs : starEach [e, .Name n p2] T.X.env = (false, eval e T.X.env) :: starEach [.Name n p2] T.X.env := by rfl) (hs2 : starEach [.Name n p2] T.X.env = (false, eval (.Name n p2) T.X.env) :: starEach [] T.X.env := by rfl) (hpl : (backTo pos (starEach [.Name n p2] T.X.env)).any (·.1) = false := by rfl) :
    SV T G (.Call (.Name "isinstance" p) [e, .Name n p2] [] pos) G' (mIsi (isiOD c) m) := by
  obtain ⟨A, h1, h2, h3, h4⟩ := is.ex
  refine PEimp (pe_callB call_isi hg hm PyProof.Rows.boot_isinstance (pa_cons he (pa_cons (pe_glob (v := .ref A) hg2 h1 rfl hd) pa_nil hs2) hs) (by decide) (by decide) hs hpl) fun σ H Q ⟨F, ρ, fps, ex, r0, m0⟩ => ?_
  refine seqR r0 m0 fun o v F1 H1 ρ1 fps1 fp1 e1 r1 z1 m1 => ?_
  obtain ⟨rfl, z1⟩ := z1
  cases q : resO ρ1 o with
  | none => simp only [q] at m1; exact m1.elim
  | some d =>
    simp only [q, Option.bind_some] at m1
    have op := opd_of r1 z1 q kb
    cases d <;> simp only [isiOD] at m1 <;> first | exact m1.elim | skip
    case obj c' ns vs =>
      by_cases hc : c' = c
      · subst hc
        simp only [if_true] at m1
        obtain ⟨a, A', dx, xs, rfl, k0, k1, _, _⟩ := op.obj r1.sub
        rw [h2] at k0
        cases k0
        exact ⟨.ref a, .ref A, _, _, _, rfl, .own A, .base (h4 _ _ _ _ k1), h3, Rem.fin (fp := []) m1 (DM.Ext.refl _ _ _) r1 ⟨rfl, rep_bl⟩⟩
      · rw [if_neg hc] at m1; exact m1.elim
end
end DM
end
section
set_option autoImplicit false
set_option Elab.async false
set_option linter.all false
set_option maxRecDepth 100000
set_option maxHeartbeats 4000000
/-! DM60: own == and != as tests. -/
namespace DM
open PySem PySem.Spec PyProof.Rows L2
theorem PCimp {X : Cx} {op : CmpOp} {a b : Expr} {t t' : TE} (h : PC X op a b t) (w : ∀ σ H Q, t' σ H Q → t σ H Q) : PC X op a b t' := ⟨fun pins s σ H Q I q => h.run pins s σ H Q I (w σ H Q q)⟩
section
variable {X : Cx} {CX : CXT} {k : Nat} {f C : Addr} {fd : FuncData} {ps : List Str} {sp : Sp} {E : L2.St → XK} {pos : Pos} {o e : Expr} {ta tb : TE}
theorem pc_eqO (ha : PE X o ta) (hb2 : PE X e tb) (hm : Meth X.K C "__eq__" f) (F : FnG X.prog X.w X.K X.mg X.base CX k f fd ps sp) (hr : RoomG k X.A) (hb : Binds X.K fd ps []) (hx : ∀ σ, PassesAt CX X σ (E σ)) : PC X .Eq o e (tEqO false C sp E ta tb) := by
  refine ⟨fun pins s σ H Q I h => thn (ha.run pins s σ H _ I h) fun u s1 ⟨x, H1, I1, rx, q1⟩ => thn (hb2.run pins s1 σ H1 _ I1 q1) fun u2 s2 ⟨y, H2, I2, ry, a, b, dx, dy, fs, gs, ex, ey, e1, e2, q2⟩ => ?_⟩
  subst ex ey
  cases rx
  cases ry
  obtain ⟨mA, J, _⟩ := ins_get I2.hok e1
  obtain ⟨mB, J', _⟩ := ins_get I2.hok e2
  obtain ⟨od, J, _⟩ := J.look
  obtain ⟨od', J', _⟩ := J'.look
  obtain ⟨m, hF⟩ := I2.fr
  show wpAny _ _ (richCompare .Eq (.ref a) (.ref b)) _ _ _
  refine PySem.W.cmp_K (op := .Eq) (tb := .ref C) hr.r.units0 hF I2.ok.mod.kin J J'.type (by simp [PySem.W.notFirst]) hm.at_ hm.fn ?_
  have r2 : Vals [V.ref a, V.ref b] [Value.ref a, Value.ref b] := .cons rfl (.cons rfl .nil)
  refine wpAny_mono (run_fnG (us := [.ref a, .ref b]) (ds := []) (dvs := []) F hr hb .nil (hx σ) I2 r2 q2) (fun v s' hv => ?_) fun _ _ z => z
  obtain ⟨v', H', I', rv, j, rfl, q⟩ := hv
  cases rv
  refine ⟨.bl j, H', I', rfl, ?_⟩
  rwa [show (j != false) = j by cases j <;> rfl] at q
theorem pc_neK (ha : PE X o ta) (hb2 : PE X e tb) (hm : Meth X.K C "__eq__" f) (hne : PySem.W.findIn X.K (.ref C) "__ne__" = some (some (.builtin "object.__ne__"))) (hob : PySem.W.subIn X.K (.ref C) (.type "object") = some true) (F : FnG X.prog X.w X.K X.mg X.base CX k f fd ps sp) (hr : RoomG (k + 1) X.A) (hb : Binds X.K fd ps []) (hx : ∀ σ, PassesAt CX X σ (E σ)) : PC X .NotEq o e (tEqO true C sp E ta tb) := by
  refine ⟨fun pins s σ H Q I h => thn (ha.run pins s σ H _ I h) fun u s1 ⟨x, H1, I1, rx, q1⟩ => thn (hb2.run pins s1 σ H1 _ I1 q1) fun u2 s2 ⟨y, H2, I2, ry, a, b, dx, dy, fs, gs, ex, ey, e1, e2, q2⟩ => ?_⟩
  subst ex ey
  cases rx
  cases ry
  obtain ⟨mA, J, _⟩ := ins_get I2.hok e1
  obtain ⟨mB, J', _⟩ := ins_get I2.hok e2
  obtain ⟨od, J, _⟩ := J.look
  obtain ⟨od', J', _⟩ := J'.look
  have hu : X.A.units + 1 < cLine := by
    have := hr.r.in1.units0
    exact this
  have go := F.run X.A.in1 X.stack s2 H2 ⟨[.ref a, .ref b], []⟩ [.ref a, .ref b] [.ref a, .ref b] (fun v H' => ∃ j, v = .bl j ∧ Q (.bl (j != true)) H') (E σ) ⟨hr.r.in1, hr.g⟩
    (by
      have e := I2.env0
      exact ⟨e.frames, e.mod, e.bs, e.bsz, e.funs, e.frf, e.hok, e.bare⟩)
    (by
      have := hb s2 [.ref a, .ref b] I2.kIn (by have := F.len _ _ _ _ q2; simpa using this)
      simpa using this) (.cons rfl (.cons rfl .nil)) q2
  have call : wpAny (model X.prog X.w) X.A.in1 (call (.ref f) [.ref a, .ref b]) (fun v s' => ∃ b, v = .bool b ∧ EP X pins σ Q (.bool (!b)) s') X.xe s2 := by
    refine wpAny_call (codeAny_mono go fun r s' hq => ?_)
    match r, hq with
    | .error e, hq => exact hx σ pins H2 s2 e s' I2 hq
    | .ok (.ret u), hq =>
      obtain ⟨z, H', I', rz, j, ez, q⟩ := I2.after hq
      subst ez
      cases rz
      refine ⟨j, rfl, .bl (!j), H', I', rfl, ?_⟩
      rwa [show (j != true) = !j by cases j <;> rfl] at q
    | .ok .next, hq => exact hq.elim
    | .ok .brk, hq => exact hq.elim
    | .ok .cont, hq => exact hq.elim
  exact ne_K I2.kIn J J' hne hm.at_ hm.fn hob hu call
end
section
variable {α β γ δ : Type} {T : Ct} {G G1 G2 G3 G' : List Md} {F F1 F2 F' H H1 H2 H' : Hp} {U U1 U2 U' : List Addr} {σ : Sl} {ρ ρ1 : DEnv} {fps fps1 : List (List Addr)} {ex fp1 : List Addr} {pos : Pos}
theorem sc_eqO {g : Sig} {B B' : Option Nat} {c : String} {k : Nat} {o e : Expr} {mo me : M Opn} (ok : T.Ok) (f : MtS T.X.prog T.X.w T.X.K T.X.mg T.X.base T.C c "__eq__" k g) (hr : RoomG k T.X.A)
    (ho1 : SO T G o B G1 mo) (he : SO T G1 e B' G' me) (ho : okP G' none 0 g.ms [B, B'] = true) (hgx : leG T.gx G' = true) (hrk : g.rk = none) (kb : okB G' B = true := by rfl) (kb' : okB G' B' = true := by rfl) :
    PC T.X .Eq o e (tG T G G' (rV T.C) (mEqO c g false mo me)) := by
  obtain ⟨A, fa, fd, ps, hA, hc, hm, F, hb⟩ := f.ex
  refine PCimp (pc_eqO (E := WE T.W) ho1 he hm F hr hb (fun σ => passAt ok.tk σ)) fun σ H Q ⟨F0, ρ, fps, ex, r0, m0⟩ => ?_
  refine seqR r0 m0 fun o1 v F1 H1 ρ1 fps1 fp1 e1 r1 z1 m1 => ?_
  obtain ⟨rfl, z1⟩ := z1
  refine seqR r1 m1 fun o2 y F2 H2 ρ2 fps2 fp2 e2 r2 z2 m2 => ?_
  obtain ⟨rfl, z2⟩ := z2
  have z1' := z1.mono e2.e1
  cases q1 : resO ρ2 o1 with
  | none => simp only [q1, Option.bind_none] at m2; exact m2.elim
  | some d1 =>
    cases q2 : resO ρ2 o2 with
    | none => simp only [q1, q2, Option.bind_none, Option.bind_some] at m2; split at m2 <;> first | exact m2.elim | simp_all
    | some d2 =>
      simp only [q1, q2, Option.bind_some] at m2
      have p1 := opd_of r2 z1' q1 kb
      have p2 := opd_of r2 z2 q2 kb'
      cases u1 : isObj c "__eq__" d1 with
      | none => simp only [u1] at m2; exact m2.elim
      | some w1 =>
        cases u2 : isObj c "__eq__" d2 with
        | none => simp only [u1, u2] at m2; exact m2.elim
        | some w2 =>
          simp only [u1, u2] at m2
          cases d1 <;> simp only [isObj, reduceCtorEq] at u1
          case obj c1 ns1 vs1 =>
            cases d2 <;> simp only [isObj, reduceCtorEq] at u2
            case obj c2 ns2 vs2 =>
              split at u1
              · split at u2
                · rename_i k1 k2
                  obtain ⟨rfl, _⟩ := k1
                  obtain ⟨rfl, _⟩ := k2
                  obtain ⟨a, A1, dx, xs, rfl, h0, g1, _, _⟩ := p1.obj r2.sub
                  obtain ⟨b, A2, dy, ys, rfl, h0', g2, _, _⟩ := p2.obj r2.sub
                  rw [hA] at h0 h0'
                  cases h0
                  cases h0'
                  refine ⟨a, b, dx, dy, _, _, rfl, rfl, g1, g2, ?_⟩
                  have args : ArgsV T.C F2 σ [B, B'] [o1, o2] [.ref a, .ref b] := ⟨z1', z2, trivial⟩
                  refine call_core r2 args ho rfl hgx (remSeq m2 fun d v F3 H3 ρ3 fps3 fp3 e3 r3 z3 m3 => ?_)
                  rw [hrk] at z3
                  obtain ⟨rfl, z3⟩ := z3
                  cases d <;> first | exact m3.elim | skip
                  case bl j =>
                    unfold Rep at z3
                    exact ⟨j, z3, Rem.fin (fp := []) m3 (DM.Ext.refl _ _ _) r3 ⟨rfl, rep_bl⟩⟩
                · cases u2
              · cases u1
theorem sc_neK {g : Sig} {B B' : Option Nat} {c : String} {k : Nat} {o e : Expr} {mo me : M Opn} (ok : T.Ok) (f : MtS T.X.prog T.X.w T.X.K T.X.mg T.X.base T.C c "__eq__" k g) (nn : NeS T.X.K T.C c) (hr : RoomG (k + 1) T.X.A)
    (ho1 : SO T G o B G1 mo) (he : SO T G1 e B' G' me) (ho : okP G' none 0 g.ms [B, B'] = true) (hgx : leG T.gx G' = true) (hrk : g.rk = none) (kb : okB G' B = true := by rfl) (kb' : okB G' B' = true := by rfl) :
    PC T.X .NotEq o e (tG T G G' (rV T.C) (mEqO c g true mo me)) := by
  obtain ⟨A, fa, fd, ps, hA, hc, hm, F, hb⟩ := f.ex
  obtain ⟨A', hA', n1, n2⟩ := nn.ex
  rw [hA] at hA'
  cases hA'
  refine PCimp (pc_neK (E := WE T.W) ho1 he hm n1 n2 F hr hb (fun σ => passAt ok.tk σ)) fun σ H Q ⟨F0, ρ, fps, ex, r0, m0⟩ => ?_
  refine seqR r0 m0 fun o1 v F1 H1 ρ1 fps1 fp1 e1 r1 z1 m1 => ?_
  obtain ⟨rfl, z1⟩ := z1
  refine seqR r1 m1 fun o2 y F2 H2 ρ2 fps2 fp2 e2 r2 z2 m2 => ?_
  obtain ⟨rfl, z2⟩ := z2
  have z1' := z1.mono e2.e1
  cases q1 : resO ρ2 o1 with
  | none => simp only [q1, Option.bind_none] at m2; exact m2.elim
  | some d1 =>
    cases q2 : resO ρ2 o2 with
    | none => simp only [q1, q2, Option.bind_none, Option.bind_some] at m2; split at m2 <;> first | exact m2.elim | simp_all
    | some d2 =>
      simp only [q1, q2, Option.bind_some] at m2
      have p1 := opd_of r2 z1' q1 kb
      have p2 := opd_of r2 z2 q2 kb'
      cases u1 : isObj c "__eq__" d1 with
      | none => simp only [u1] at m2; exact m2.elim
      | some w1 =>
        cases u2 : isObj c "__eq__" d2 with
        | none => simp only [u1, u2] at m2; exact m2.elim
        | some w2 =>
          simp only [u1, u2] at m2
          cases d1 <;> simp only [isObj, reduceCtorEq] at u1
          case obj c1 ns1 vs1 =>
            cases d2 <;> simp only [isObj, reduceCtorEq] at u2
            case obj c2 ns2 vs2 =>
              split at u1
              · split at u2
                · rename_i k1 k2
                  obtain ⟨rfl, _⟩ := k1
                  obtain ⟨rfl, _⟩ := k2
                  obtain ⟨a, A1, dx, xs, rfl, h0, g1, _, _⟩ := p1.obj r2.sub
                  obtain ⟨b, A2, dy, ys, rfl, h0', g2, _, _⟩ := p2.obj r2.sub
                  rw [hA] at h0 h0'
                  cases h0
                  cases h0'
                  refine ⟨a, b, dx, dy, _, _, rfl, rfl, g1, g2, ?_⟩
                  have args : ArgsV T.C F2 σ [B, B'] [o1, o2] [.ref a, .ref b] := ⟨z1', z2, trivial⟩
                  refine call_core r2 args ho rfl hgx (remSeq m2 fun d v F3 H3 ρ3 fps3 fp3 e3 r3 z3 m3 => ?_)
                  rw [hrk] at z3
                  obtain ⟨rfl, z3⟩ := z3
                  cases d <;> first | exact m3.elim | skip
                  case bl j =>
                    unfold Rep at z3
                    exact ⟨j, z3, Rem.fin (fp := []) m3 (DM.Ext.refl _ _ _) r3 ⟨rfl, rep_bl⟩⟩
                · cases u2
              · cases u1
/-- the value of a comparison, and the comparison as a test -/
theorem sv_pc {op : CmpOp} {a b : Expr} {f : M D} (h : PC T.X op a b (tG T G G' (rV T.C) f)) (h1 : behindInMarks op b = false := by first | exact nobehind _ (by decide) (by decide) | rfl) : SV T G (.Compare a [op] [b] pos) G' f := pe_cmp h h1
theorem st_pc {op : CmpOp} {a b : Expr} {f : M D} (h : PC T.X op a b (tG T G G' (rV T.C) f)) (h1 : behindInMarks op b = false := by first | exact nobehind _ (by decide) (by decide) | rfl) : ST T G (.Compare a [op] [b] pos) G' (tOf f) := PTimp (pt_cmp h h1) fun σ H Q w => by
  obtain ⟨F, ρ, fps, ex, r0, m0⟩ := w
  refine seqR r0 m0 fun d x F1 H1 ρ1 fps1 fp1 e1 r1 z1 m1 => ?_
  obtain ⟨rfl, z1⟩ := z1
  cases d <;> first | exact m1.elim | skip
  case bl b =>
    have q : x = .bl b := by unfold Rep at z1; exact z1
    exact ⟨b, q, Rem.fin (fp := []) m1 (DM.Ext.refl _ _ _) r1 ⟨rfl, rfl⟩⟩
end
end DM
end
section
set_option autoImplicit false
set_option Elab.async false
set_option linter.all false
set_option maxRecDepth 100000
set_option maxHeartbeats 4000000
/-! DM61: l.count(x). -/
namespace DM
open PySem PySem.Spec PyProof.Rows L2
section
variable {X : Cx}
def rCountD (K : PySem.W.Frag) : V → List V → Hp → VK → Prop := fun x xs H Q => ∃ (a : Addr) (y : V) (d : PyData) (ds : List PyData), x = V.ref a ∧ xs = [y] ∧ Dp K H (V.ref a) (.list ds) ∧ Dp K H y d ∧
  SeqAt.shaped (.list ds) = true ∧ SeqAt.shaped d = true ∧ Q (.int ((ds.countP fun z => PyData.eqv z d : Nat) : Int)) H
end
def cntD (l : List D) (d : D) : Option Nat := match toPy d, toPyL l with
  | some p, some ps => if p.depth ≤ 64 ∧ PyData.depthAll ps ≤ 60 then some (ps.countP fun z => PyData.eqv z p) else none
  | _, _ => none
def cnR : Option (List D) → Option D → DEnv → R D
  | some l, some d, ρ => (match cntD l d with
    | some j => .ok (.int (j : Nat)) ρ
    | none => .bad)
  | _, _, _ => .bad
def mCount (mo : M Opn) (ma : M (List Opn)) : M D := bindM mo fun o => fun ρ => match (resO ρ o).bind lstD with
  | some _ => bindM ma (fun os ρ => cnR ((resO ρ o).bind lstD) ((o1 os).bind (resO ρ)) ρ) ρ
  | none => .bad
section
variable {T : Ct} {S : Gs} {G G1 G2 G' : List Md} {pos : Pos}
end
section
variable {ρ : DEnv} {E : ExK}
end
end DM
end
section
set_option autoImplicit false
set_option Elab.async false
set_option linter.all false
set_option maxRecDepth 100000
set_option maxHeartbeats 4000000
/-! DM62: the rule of own comparisons. -/
namespace DM
open PySem PySem.Spec PyProof.Rows L2
section
variable {ρ : DEnv} {E : ExK}
theorem W_eqO {c : String} {g : Sig} {neg : Bool} {mo me : M Opn} {Q : D → DEnv → Prop} (h : We (mo ρ) (fun o1 ρ1 => We (me ρ1) (fun o2 ρ2 => Sm (resO ρ2 o1) fun d1 => Sm (resO ρ2 o2) fun d2 => Sm (isObj c "__eq__" d1) fun _ => Sm (isObj c "__eq__" d2) fun _ =>
    We (g.m [d1, d2]) (fun d _ => IsB d fun j => Q (.bl (j != neg)) ρ2) (fun c ns vs _ => E c ns vs ρ2)) E) E) : We (mEqO c g neg mo me ρ) Q E :=
  W_bind (h.mono fun o1 ρ1 z => W_bind (z.mono fun o2 ρ2 ⟨d1, e1, d2, e2, _, e3, _, e4, z⟩ => by
    (try dsimp only); rw [e1, e2, Option.bind_some, Option.bind_some, e3, e4]
    show We (bindM (callB g none [o1, o2]) (fun (d : D) ρ => match d with | D.bl j => R.ok (D.bl (j != neg)) ρ | _ => R.bad) ρ2) Q E
    refine W_bind ?_
    unfold callB
    rw [show resL ρ2 [o1, o2] = some [d1, d2] by simp [resL, e1, e2]]
    (try dsimp only)
    revert z
    cases g.m [d1, d2] with
    | ok d ρo => intro z; obtain ⟨j, rfl, zz⟩ := We.okE z; exact We.ok (We.ok zz)
    | ex c ns vs ρo => intro z; have zz := We.exE z; exact We.exI zz
    | bad => exact fun z => (We.badE z).elim))
end
end DM
end
section
set_option autoImplicit false
set_option Elab.async false
set_option linter.all false
set_option maxRecDepth 100000
set_option maxHeartbeats 4000000
/-! DM63: f(). -/
namespace DM
open PySem PySem.Spec PyProof.Rows L2
section
variable {X : Cx} {CX : CXT} {k : Nat} {f : Addr} {fd : FuncData} {ps : List Str} {sp : Sp} {E : L2.St → XK} {pos : Pos}
end
section
variable {T : Ct} {G G' : List Md} {pos : Pos}
end
end DM
end
section
set_option autoImplicit false
set_option Elab.async false
set_option linter.all false
set_option maxRecDepth 100000
set_option maxHeartbeats 4000000
/-! DM64: == of dicts of any entries (texts, whole numbers, dicts), whatever the answer is. -/
namespace DM
open PySem PySem.Spec PyProof.Rows L2
def fnd {α : Type} (ks : List Key) (vs : List α) (k : Key) : Option α := ((ks.zip vs).find? fun p => decide (p.1 = k)).map (·.2)
/-- the entries of one key, compared -/
def entQ (f : D → D → Option Bool) (ks : List Key) (vs : List D) (ks' : List Key) (vs' : List D) (k : Key) : Option (Option Bool) := (fnd ks vs k).bind fun d => (fnd ks' vs' k).map fun d' => f d d'
def blO : D → Option Bool
  | .bl b => some b
  | _ => none
def inO : D → Option Int
  | .int b => some b
  | _ => none
def stO : D → Option Str
  | .str b => some b
  | _ => none
def noO : D → Bool
  | .non => true
  | _ => false
def diO : D → Option (List Key × List D)
  | .dic ks vs => some (ks, vs)
  | _ => none
theorem blO_eq {d : D} {b : Bool} (h : blO d = some b) : d = .bl b := by cases d <;> simp only [blO, reduceCtorEq, Option.some.injEq] at h; rw [h]
theorem inO_eq {d : D} {b : Int} (h : inO d = some b) : d = .int b := by cases d <;> simp only [inO, reduceCtorEq, Option.some.injEq] at h; rw [h]
theorem stO_eq {d : D} {b : Str} (h : stO d = some b) : d = .str b := by cases d <;> simp only [stO, reduceCtorEq, Option.some.injEq] at h; rw [h]
theorem noO_eq {d : D} (h : noO d = true) : d = .non := by cases d <;> simp only [noO, Bool.false_eq_true] at h; rfl
theorem diO_eq {d : D} {p : List Key × List D} (h : diO d = some p) : d = .dic p.1 p.2 := by cases d <;> simp only [diO, reduceCtorEq, Option.some.injEq] at h; rw [← h]
def op2O {α : Type} [DecidableEq α] (a b : Option α) : Option Bool := a.bind fun x => b.map fun y => decide (x = y)
/-- texts, whole numbers, true and false, None: of one kind -/
def eqS (d e : D) : Option Bool := (op2O (blO d) (blO e)).or ((op2O (inO d) (inO e)).or ((op2O (stO d) (stO e)).or (if (noO d && noO e) = true then some true else none)))
def eqQ : Nat → D → D → Option Bool
  | 0, d, e => eqS d e
  | n + 1, d, e => match diO d, diO e with
    | some p, some q => if (p.1.all fun k => entQ (eqQ n) p.1 p.2 q.1 q.2 k != some none) = true then some (decide (p.1.length = q.1.length) && p.1.all fun k => entQ (eqQ n) p.1 p.2 q.1 q.2 k == some (some true)) else none
    | _, _ => eqS d e
theorem op2O_eq {α : Type} [DecidableEq α] {a b : Option α} {r : Bool} (h : op2O a b = some r) : ∃ x y, a = some x ∧ b = some y ∧ decide (x = y) = r := by
  cases a <;> cases b <;> simp only [op2O, Option.bind_none, Option.bind_some, Option.map_none, Option.map_some, reduceCtorEq, Option.some.injEq] at h
  exact ⟨_, _, rfl, rfl, h⟩
theorem eqS_eq {d e : D} {r : Bool} (h : eqS d e = some r) : (∃ x y, d = .bl x ∧ e = .bl y ∧ decide (x = y) = r) ∨ (∃ x y, d = .int x ∧ e = .int y ∧ decide (x = y) = r) ∨ (∃ x y, d = .str x ∧ e = .str y ∧ decide (x = y) = r) ∨ (d = .non ∧ e = .non ∧ r = true) := by
  unfold eqS at h
  cases q1 : op2O (blO d) (blO e) with
  | some b =>
    rw [q1] at h
    obtain ⟨x, y, e1, e2, e3⟩ := op2O_eq q1
    cases h
    exact .inl ⟨x, y, blO_eq e1, blO_eq e2, e3⟩
  | none =>
    rw [q1, Option.none_or] at h
    cases q2 : op2O (inO d) (inO e) with
    | some b =>
      rw [q2] at h
      obtain ⟨x, y, e1, e2, e3⟩ := op2O_eq q2
      cases h
      exact .inr (.inl ⟨x, y, inO_eq e1, inO_eq e2, e3⟩)
    | none =>
      rw [q2, Option.none_or] at h
      cases q3 : op2O (stO d) (stO e) with
      | some b =>
        rw [q3] at h
        obtain ⟨x, y, e1, e2, e3⟩ := op2O_eq q3
        cases h
        exact .inr (.inr (.inl ⟨x, y, stO_eq e1, stO_eq e2, e3⟩))
      | none =>
        rw [q3, Option.none_or] at h
        split at h
        · rename_i c
          rw [Bool.and_eq_true] at c
          cases h
          exact .inr (.inr (.inr ⟨noO_eq c.1, noO_eq c.2, rfl⟩))
        · cases h
theorem eqQ_succ {n : Nat} {d e : D} {r : Bool} (h : eqQ (n + 1) d e = some r) : (∃ ks vs ks' vs', d = .dic ks vs ∧ e = .dic ks' vs' ∧ (ks.all fun k => entQ (eqQ n) ks vs ks' vs' k != some none) = true ∧ r = (decide (ks.length = ks'.length) && ks.all fun k => entQ (eqQ n) ks vs ks' vs' k == some (some true))) ∨ eqS d e = some r := by
  rw [eqQ] at h
  split at h
  · rename_i p q e1 e2
    split at h
    · rename_i c
      exact .inl ⟨p.1, p.2, q.1, q.2, diO_eq e1, diO_eq e2, c, (Option.some.inj h).symm⟩
    · cases h
  · exact .inr h
theorem rd_inj {H : Hp} {a : Addr} {l l' : List (Key × V)} (h : Rd H a (.dK l)) (h' : Rd H a (.dK l')) : l = l' := by
  rcases h with h | ⟨o, h⟩ <;> rcases h' with h' | ⟨o', h'⟩ <;> rw [h] at h' <;> cases h' <;> rfl
theorem zip_inj {α β : Type} : ∀ {ks ks' : List α} {xs xs' : List β}, ks.length = xs.length → ks'.length = xs'.length → ks.zip xs = ks'.zip xs' → ks = ks' ∧ xs = xs'
  | [], [], [], [], _, _, _ => ⟨rfl, rfl⟩
  | [], _ :: _, [], _ :: _, _, _, e => by simp at e
  | _ :: _, [], _ :: _, [], _, _, e => by simp at e
  | k :: ks, k' :: ks', x :: xs, x' :: xs', h, h', e => by
    simp only [List.zip_cons_cons, List.cons.injEq, Prod.mk.injEq] at e
    obtain ⟨⟨rfl, rfl⟩, e⟩ := e
    obtain ⟨rfl, rfl⟩ := zip_inj (by simpa using h) (by simpa using h') e
    exact ⟨rfl, rfl⟩
theorem fnd_of {C : Cl} {F : Hp} {ks : List Key} {ds : List D} {xs : List V} {k : Key} {d : D} (r : RepL C F ds xs) (e : fnd ks ds k = some d) : ∃ v, valV (ks.zip xs) k = some v ∧ Rep C F d v := find_zip r e
theorem fnd_none {C : Cl} {F : Hp} {ks : List Key} {ds : List D} {xs : List V} {k : Key} (r : RepL C F ds xs) (e : fnd ks ds k = none) : valV (ks.zip xs) k = none := find_zip_none r e
theorem fnd_mem {α : Type} : ∀ {ks : List Key} {vs : List α} {k : Key}, ks.length = vs.length → k ∈ ks → ∃ d, fnd ks vs k = some d
  | [], _, _, _, h => by cases h
  | k' :: ks, [], _, e, _ => by cases e
  | k' :: ks, v :: vs, k, e, h => by
    unfold fnd
    rw [List.zip_cons_cons, List.find?_cons]
    by_cases q : k' = k
    · simp [q]
    · have : decide (k' = k) = false := by simpa using q
      simp only [this]
      rcases List.mem_cons.mp h with z | z
      · exact absurd z.symm q
      · exact fnd_mem (by simpa using e) z
theorem mem_fnd {α : Type} : ∀ {ks : List Key} {vs : List α} {k : Key} {d : α}, fnd ks vs k = some d → k ∈ ks
  | [], _, _, _, h => by simp [fnd] at h
  | k' :: ks, [], _, _, h => by simp [fnd] at h
  | k' :: ks, v :: vs, k, d, h => by
    unfold fnd at h
    rw [List.zip_cons_cons, List.find?_cons] at h
    by_cases q : k' = k
    · subst q; exact List.mem_cons_self
    · have : decide (k' = k) = false := by simpa using q
      simp only [this] at h
      exact List.mem_cons_of_mem _ (mem_fnd h)
theorem eqS_same {C : Cl} {F : Hp} {d e : D} {x : V} {b : Bool} (h : eqS d e = some b) (hx : Rep C F d x) (hy : Rep C F e x) : b = true := by
  rcases eqS_eq h with ⟨i, j, rfl, rfl, k⟩ | ⟨i, j, rfl, rfl, k⟩ | ⟨i, j, rfl, rfl, k⟩ | ⟨rfl, rfl, k⟩
  · unfold Rep at hx hy; subst hx; cases hy; simpa using k.symm
  · unfold Rep at hx hy; subst hx; cases hy; simpa using k.symm
  · unfold Rep at hx hy; obtain ⟨rfl, _⟩ := hx; obtain ⟨hy, _⟩ := hy; cases hy; simpa using k.symm
  · exact k
/-- read of one place: the same -/
theorem eqQ_same {C : Cl} {F : Hp} : ∀ (n : Nat) (d e : D) (x : V) (b : Bool), eqQ n d e = some b → Rep C F d x → Rep C F e x → b = true := by
  intro n
  induction n with
  | zero => exact fun d e x b h hx hy => eqS_same h hx hy
  | succ n ih =>
    intro d e x b h hx hy
    rcases eqQ_succ h with ⟨ks, vs, ks', vs', rfl, rfl, hall, hb⟩ | h
    · unfold Rep at hx hy
      obtain ⟨a, xs, rfl, a1, a2, a3, _⟩ := hx
      obtain ⟨a', ys, ea, b1, b2, b3, _⟩ := hy
      cases ea
      obtain ⟨rfl, rfl⟩ := zip_inj (by rw [a3]; exact a2.length) (by rw [b3]; exact b2.length) (rd_inj a1 b1)
      rw [hb, Bool.and_eq_true, List.all_eq_true]
      refine ⟨by simp, fun k hk => ?_⟩
      rw [List.all_eq_true] at hall
      have h1 := hall k hk
      obtain ⟨d, e1⟩ := fnd_mem a3 hk
      obtain ⟨d', e2⟩ := fnd_mem b3 hk
      unfold entQ at h1 ⊢
      rw [e1, e2] at h1 ⊢
      simp only [Option.bind_some, Option.map_some] at h1 ⊢
      obtain ⟨v, v1, v2⟩ := fnd_of a2 e1
      obtain ⟨v', w1, w2⟩ := fnd_of b2 e2
      rw [v1] at w1
      cases w1
      cases q : eqQ n d d' with
      | none => rw [q] at h1; simp at h1
      | some b' =>
        have := ih d d' v b' q v2 w2
        subst this
        simp
    · exact eqS_same h hx hy
/-- the entries, and what is told of all of them -/
theorem ent_all {C : Cl} {F : Hp} {n : Nat} {ks ks' : List Key} {vs vs' : List D} {xs ys : List V} {va vb : List (Key × Value)} (a2 : RepL C F vs xs) (a3 : ks.length = vs.length) (b2 : RepL C F vs' ys) (b3 : ks'.length = vs'.length)
    (rel : KV (ks.zip xs) va) (relb : KV (ks'.zip ys) vb) (nda : (va.map (·.1)).Nodup) :
    (va.length == vb.length && va.all fun p => (valueAt vb p.1).isSome && (entQ (eqQ n) ks vs ks' vs' p.1 == some (some true))) = (decide (ks.length = ks'.length) && ks.all fun k => entQ (eqQ n) ks vs ks' vs' k == some (some true)) := by
  have l1 : va.length = ks.length := by rw [← rel.length, List.length_zip, ← a2.length, ← a3, Nat.min_self]
  have l2 : vb.length = ks'.length := by rw [← relb.length, List.length_zip, ← b2.length, ← b3, Nat.min_self]
  rw [l1, l2]
  rw [show (ks.length == ks'.length) = decide (ks.length = ks'.length) from rfl]
  congr 1
  · rw [Bool.eq_iff_iff, List.all_eq_true, List.all_eq_true]
    constructor
    · intro hq k hk
      obtain ⟨d, e1⟩ := fnd_mem a3 hk
      obtain ⟨v, v1, _⟩ := fnd_of a2 e1
      have r1 := rel.val k
      rw [v1] at r1
      cases q : valueAt va k with
      | none => rw [q] at r1; exact r1.elim
      | some u =>
        have hm : (k, u) ∈ va := valueAt_mem q
        have := hq _ hm
        rw [Bool.and_eq_true] at this
        exact this.2
    · intro hq p hp
      have hk : p.1 ∈ ks := by
        obtain ⟨i, hi, ei⟩ := List.getElem_of_mem hp
        have ea : valueAt va p.1 = some p.2 := valueAt_of_get nda (by rw [List.getElem?_eq_getElem hi, ei])
        have r1 := rel.val p.1
        rw [ea] at r1
        cases q : fnd ks vs p.1 with
        | none => rw [fnd_none a2 q] at r1; exact r1.elim
        | some d => exact mem_fnd q
      have := hq _ hk
      rw [Bool.and_eq_true]
      refine ⟨?_, this⟩
      unfold entQ at this
      cases q : fnd ks vs p.1 with
      | none => rw [q] at this; simp at this
      | some d =>
        rw [q] at this
        cases q2 : fnd ks' vs' p.1 with
        | none => rw [q2] at this; simp at this
        | some d' =>
          obtain ⟨v, v1, _⟩ := fnd_of b2 q2
          have r1 := relb.val p.1
          rw [v1] at r1
          cases q3 : valueAt vb p.1 with
          | none => rw [q3] at r1; exact r1.elim
          | some u => rfl
/-- the comparison of two values that are told by data -/
theorem eq_treeQ {X : Cx} {C : Cl} {pins : List (Addr × Obj)} {σ : L2.St} {F H : Hp} {s : Shared} (I : Inv X pins σ H s) (sF : DM.Sub F H) : ∀ (n : Nat) (d e : D) (x y : V) (u v : Value) (r : Bool), eqQ n d e = some r → Rep C F d x → Rep C F e y → RelV x u → RelV y v → PySem.W.EqTree X.prog X.w s n u v r := by
  have leafs : ∀ (n : Nat) (d e : D) (x y : V) (u v : Value) (r : Bool), eqS d e = some r → Rep C F d x → Rep C F e y → RelV x u → RelV y v → PySem.W.EqTree X.prog X.w s n u v r := by
    intro n d e x y u v r h hx hy ru rv
    rcases eqS_eq h with ⟨i, j, rfl, rfl, k⟩ | ⟨i, j, rfl, rfl, k⟩ | ⟨i, j, rfl, rfl, k⟩ | ⟨rfl, rfl, k⟩
    · unfold Rep at hx hy
      subst hx hy
      cases ru
      cases rv
      refine .leaf fun A _ => ?_
      have := SeqAt.EqAt.bool_bool (A := A) (s := s) i j
      rw [← k]
      exact this
    · unfold Rep at hx hy
      subst hx hy
      obtain ⟨t, rfl⟩ := ru
      obtain ⟨t', rfl⟩ := rv
      refine .leaf fun A _ => ?_
      have := SeqAt.EqAt.int_int (A := A) (s := s) i t j t'
      rw [← k]
      exact this
    · unfold Rep at hx hy
      obtain ⟨rfl, _⟩ := hx
      obtain ⟨rfl, _⟩ := hy
      obtain ⟨t, rfl⟩ := ru
      obtain ⟨t', rfl⟩ := rv
      refine .leaf fun A _ => ?_
      have := SeqAt.EqAt.str_str (A := A) (s := s) i t j t'
      rw [← k]
      exact this
    · unfold Rep at hx hy
      subst hx hy k
      cases ru
      cases rv
      exact .same
  intro n
  induction n with
  | zero => exact fun d e x y u v r h => leafs 0 d e x y u v r h
  | succ n ih =>
    intro d e x y u v r h hx hy ru rv
    rcases eqQ_succ h with ⟨ks, vs, ks', vs', rfl, rfl, hall, hb⟩ | h2
    · have hx' := hx
      have hy' := hy
      obtain ⟨a, xs, rfl, a1, a2, a3, a4⟩ := Opd.dic (C := C) sF (.inl hx)
      obtain ⟨b, ys, rfl, b1, b2, b3, b4⟩ := Opd.dic (C := C) sF (.inl hy)
      cases ru
      cases rv
      by_cases hab : a = b
      · subst hab
        have := eqQ_same (n + 1) _ _ _ r h hx' hy'
        rw [this]
        exact .same
      · obtain ⟨z, hd, va, rel, dd⟩ := dk_rd I.hok a1
        obtain ⟨z2, hd2, vb, relb, ddb⟩ := dk_rd I.hok b1
        have nda : (va.map (·.1)).Nodup := let ⟨_, _, _, _, _, _, _, _, n⟩ := dd; n
        have e := ent_all (n := n) a2 a3 b2 b3 rel relb nda
        have t := PySem.W.EqTree.dicts (prog := X.prog) (w := X.w) (s := s) (n := n) (e := fun k => entQ (eqQ n) ks vs ks' vs' k == some (some true)) hab hd hd2 dd ddb fun k v y hm hv => by
          obtain ⟨i, hi, ei⟩ := List.getElem_of_mem hm
          have ea : valueAt va k = some v := valueAt_of_get nda (by rw [List.getElem?_eq_getElem hi, ei])
          have r1 := rel.val k
          have r2 := relb.val k
          rw [ea] at r1
          rw [hv] at r2
          cases q : fnd ks vs k with
          | none => rw [fnd_none a2 q] at r1; exact r1.elim
          | some d =>
            cases q2 : fnd ks' vs' k with
            | none => rw [fnd_none b2 q2] at r2; exact r2.elim
            | some d' =>
              obtain ⟨x', e1, h1⟩ := fnd_of a2 q
              obtain ⟨y', e2, h2⟩ := fnd_of b2 q2
              rw [e1] at r1
              rw [e2] at r2
              have h3 := List.all_eq_true.mp hall k (mem_fnd q)
              unfold entQ at h3 ⊢
              rw [q, q2] at h3 ⊢
              simp only [Option.bind_some, Option.map_some] at h3 ⊢
              cases q3 : eqQ n d d' with
              | none => rw [q3] at h3; simp at h3
              | some b' =>
                have := ih d d' x' y' v y b' q3 h1 h2 r1 r2
                rw [show ((some (some b') : Option (Option Bool)) == some (some true)) = b' by cases b' <;> rfl]
                exact this
        rw [e, ← hb] at t
        exact t
    · exact leafs (n + 1) d e x y u v r h2 hx hy ru rv
/-- d == e, two dicts -/
def rEqDicQ (n : Nat) : R2 := fun x y H Q => ∃ (C : Cl) (F : Hp) (d e : D) (r : Bool) (ks : List Key) (vs : List D) (ks' : List Key) (vs' : List D), d = .dic ks vs ∧ e = .dic ks' vs' ∧ eqQ (n + 1) d e = some r ∧ Opd C F H d x ∧ Opd C F H e y ∧ DM.Sub F H ∧ Q (.bl r) H
theorem op_eqDicQ {X : Cx} {n : Nat} (hu : X.A.units + (n + 1) < cLine) : OpR X (compareOp .Eq) (rEqDicQ n) := by
  intro pins s σ H x y v u Q I rx ry h
  obtain ⟨C, F, d, e, r, ks, vs, ks', vs', rfl, rfl, hr, hx, hy, sF, q⟩ := h
  obtain ⟨a, xs, rfl, a1, a2, a3, a4⟩ := hx.dic sF
  obtain ⟨b, ys, rfl, b1, b2, b3, b4⟩ := hy.dic sF
  cases rx
  cases ry
  rcases eqQ_succ hr with ⟨ks0, vs0, ks0', vs0', e1, e2, hall, hb⟩ | h2
  · cases e1
    cases e2
    obtain ⟨z, hd, va, rel, dd⟩ := dk_rd I.hok a1
    obtain ⟨z2, hd2, vb, relb, ddb⟩ := dk_rd I.hok b1
    have nda : (va.map (·.1)).Nodup := let ⟨_, _, _, _, _, _, _, _, n⟩ := dd; n
    have e := ent_all (n := n) a2 a3 b2 b3 rel relb nda
    refine PySem.W.eq_dictsT (n := n) (e := fun k => entQ (eqQ n) ks vs ks' vs' k == some (some true)) hd hd2 dd ddb (fun k v y hm hv => ?_) hu ?_
    · obtain ⟨i, hi, ei⟩ := List.getElem_of_mem hm
      have ea : valueAt va k = some v := valueAt_of_get nda (by rw [List.getElem?_eq_getElem hi, ei])
      have r1 := rel.val k
      have r2 := relb.val k
      rw [ea] at r1
      rw [hv] at r2
      cases q : fnd ks vs k with
      | none => rw [fnd_none a2 q] at r1; exact r1.elim
      | some d =>
        cases q2 : fnd ks' vs' k with
        | none => rw [fnd_none b2 q2] at r2; exact r2.elim
        | some d' =>
          obtain ⟨x', e1, h1⟩ := fnd_of a2 q
          obtain ⟨y', e2, h2⟩ := fnd_of b2 q2
          rw [e1] at r1
          rw [e2] at r2
          have h3 := List.all_eq_true.mp hall k (mem_fnd q)
          unfold entQ at h3 ⊢
          rw [q, q2] at h3 ⊢
          simp only [Option.bind_some, Option.map_some] at h3 ⊢
          cases q3 : eqQ n d d' with
          | none => rw [q3] at h3; simp at h3
          | some b' =>
            have := eq_treeQ I sF n d d' x' y' v y b' q3 h1 h2 r1 r2
            rw [show ((some (some b') : Option (Option Bool)) == some (some true)) = b' by cases b' <;> rfl]
            exact this
    · rw [e, ← hb]
      exact ⟨.bl r, H, I, rfl, q⟩
  · simp [eqS, op2O, blO, inO, stO, noO] at h2
def eqDG (d e : D) : Option D := match diO d, diO e with
  | some _, some _ => (eqQ 9 d e).map .bl
  | _, _ => none
theorem prim_eqDicQ {C : Cl} : Prim2 C (rEqDicQ 8) eqDG := by
  intro F H d1 d2 d x y Q s h1 h2 e q
  unfold eqDG at e
  split at e
  · rename_i p p' e1 e2
    cases q1 : eqQ 9 d1 d2 with
    | none => rw [q1] at e; cases e
    | some r =>
      rw [q1] at e
      cases e
      exact ⟨C, F, d1, d2, r, p.1, p.2, p'.1, p'.2, diO_eq e1, diO_eq e2, q1, h1, h2, s, q _ _ _ _ (NewOk.plain rfl rep_bl)⟩
  · cases e
end DM
end
section
set_option autoImplicit false
set_option Elab.async false
set_option linter.all false
set_option maxRecDepth 100000
set_option maxHeartbeats 4000000
/-! DM65: ties put in and taken off, pieces counted: plain mathematics. -/
namespace DM
open PySem L2
def isP (a b x y : Str) : Bool := (decide (x = a) && decide (y = b)) || (decide (x = b) && decide (y = a))
def addT (nb : Str → Str → Bool) (a b : Str) : Str → Str → Bool := fun x y => nb x y || isP a b x y
def delT (nb : Str → Str → Bool) (a b : Str) : Str → Str → Bool := fun x y => nb x y && !isP a b x y
theorem isP_iff {a b x y : Str} : isP a b x y = true ↔ (x = a ∧ y = b) ∨ (x = b ∧ y = a) := by
  unfold isP; simp
theorem isP_sy {a b x y : Str} : isP a b x y = isP a b y x := by
  rw [Bool.eq_iff_iff, isP_iff, isP_iff]
  constructor <;> rintro (⟨h, k⟩ | ⟨h, k⟩) <;> simp [h, k]
theorem isP_sw {a b x y : Str} : isP a b x y = isP b a x y := by
  rw [Bool.eq_iff_iff, isP_iff, isP_iff, or_comm]
section
variable {nb nb' : Str → Str → Bool} {ps : List Str} {a b : Str}
/-! ### how many ties -/
theorem filter_more {l : List Str} {p : Str → Bool} {c : Str} (hn : l.Nodup) (hc : p c = false) : (l.filter fun y => p y || decide (y = c)).length = (l.filter p).length + (if c ∈ l then 1 else 0) := by
  induction l with
  | nil => rfl
  | cons y l ih =>
    obtain ⟨h1, h2⟩ := List.nodup_cons.mp hn
    have ih := ih h2
    by_cases e : y = c
    · subst e
      rw [List.filter_cons_of_pos (by simp), List.filter_cons_of_neg (by simp [hc]), List.length_cons, ih, if_neg h1, if_pos List.mem_cons_self]
    · have hm : c ∈ y :: l ↔ c ∈ l := by simp [Ne.symm e]
      by_cases q : p y = true
      · rw [List.filter_cons_of_pos (by simp [q]), List.filter_cons_of_pos q, List.length_cons, List.length_cons, ih]
        simp only [hm]
        omega
      · rw [List.filter_cons_of_neg (by simp [q, e]), List.filter_cons_of_neg q, ih]
        simp only [hm]
theorem tiesR_add (hab : a ≠ b) (h1 : nb a b = false) (h2 : nb b a = false) : ∀ {l : List Str}, l.Nodup → (tiesR (addT nb a b) l).length = (tiesR nb l).length + (if a ∈ l ∧ b ∈ l then 1 else 0)
  | [], _ => rfl
  | x :: l, hn => by
    obtain ⟨n1, n2⟩ := List.nodup_cons.mp hn
    have ih := tiesR_add hab h1 h2 n2
    unfold tiesR
    rw [List.length_append, List.length_append, List.length_map, List.length_map, ih]
    by_cases xa : x = a
    · subst xa
      have e : l.filter (addT nb x b x) = l.filter fun y => nb x y || decide (y = b) := List.filter_congr fun y hy => by
        unfold addT
        congr 1
        rw [Bool.eq_iff_iff, isP_iff, decide_eq_true_iff]
        exact ⟨fun h => h.elim (·.2) fun h => absurd h.1 hab, fun h => .inl ⟨rfl, h⟩⟩
      have c1 : (if x ∈ l ∧ b ∈ l then 1 else 0) = 0 := if_neg fun z : x ∈ l ∧ b ∈ l => n1 z.1
      rw [e, filter_more n2 h1, c1]
      by_cases hb : b ∈ l
      · rw [if_pos hb, if_pos ⟨List.mem_cons_self, List.mem_cons_of_mem _ hb⟩]; omega
      · rw [if_neg hb, if_neg fun z => by rcases List.mem_cons.mp z.2 with z | z; exact hab z.symm; exact hb z]; omega
    · by_cases xb : x = b
      · subst xb
        have e : l.filter (addT nb a x x) = l.filter fun y => nb x y || decide (y = a) := List.filter_congr fun y hy => by
          unfold addT
          congr 1
          rw [Bool.eq_iff_iff, isP_iff, decide_eq_true_iff]
          exact ⟨fun h => h.elim (fun h => absurd h.1.symm hab) (·.2), fun h => .inr ⟨rfl, h⟩⟩
        have c1 : (if a ∈ l ∧ x ∈ l then 1 else 0) = 0 := if_neg fun z : a ∈ l ∧ x ∈ l => n1 z.2
        rw [e, filter_more n2 h2, c1]
        by_cases ha : a ∈ l
        · rw [if_pos ha, if_pos ⟨List.mem_cons_of_mem _ ha, List.mem_cons_self⟩]; omega
        · rw [if_neg ha, if_neg fun z => by rcases List.mem_cons.mp z.1 with z | z; exact hab z; exact ha z]; omega
      · have e : l.filter (addT nb a b x) = l.filter (nb x) := List.filter_congr fun y hy => by
          unfold addT
          have : isP a b x y = false := by rw [← Bool.not_eq_true, isP_iff]; rintro (z | z); exact xa z.1; exact xb z.1
          rw [this, Bool.or_false]
        rw [e]
        have ea : a ∈ x :: l ↔ a ∈ l := by simp [Ne.symm xa]
        have eb : b ∈ x :: l ↔ b ∈ l := by simp [Ne.symm xb]
        simp only [ea, eb]
        omega
theorem tiesR_perm (sy : ∀ x y, nb x y = nb y x) {l l' : List Str} (h : l.Perm l') : (tiesR nb l).length = (tiesR nb l').length := by
  induction h with
  | nil => rfl
  | cons x p ih =>
    unfold tiesR
    rw [List.length_append, List.length_append, List.length_map, List.length_map, ih, (p.filter _).length_eq]
  | swap x y l =>
    unfold tiesR
    unfold tiesR
    simp only [List.length_append, List.length_map, List.filter_cons]
    rw [sy x y]
    cases nb y x <;> simp <;> omega
  | trans _ _ ih1 ih2 => exact ih1.trans ih2
theorem tiesR_filter (t : Str → Bool) : ∀ {l : List Str}, tiesR nb (l.filter t) = (tiesR nb l).filter fun p => t p.1 && t p.2
  | [] => rfl
  | x :: l => by
    by_cases q : t x = true
    · rw [List.filter_cons_of_pos q]
      unfold tiesR
      rw [List.filter_append, tiesR_filter t, List.filter_map, List.filter_filter, List.filter_filter]
      congr 2
      refine List.filter_congr fun y hy => ?_
      simp [q, Bool.and_comm]
    · rw [List.filter_cons_of_neg q, tiesR_filter t]
      conv => rhs; unfold tiesR
      rw [List.filter_append, List.filter_map]
      have : (l.filter (nb x)).filter ((fun p : Str × Str => t p.1 && t p.2) ∘ fun y => (x, y)) = [] := by
        rw [List.filter_eq_nil_iff]
        intro y _
        simp [q]
      rw [this]
      rfl
theorem tiesR_congr : ∀ {l : List Str}, (∀ x ∈ l, ∀ y ∈ l, nb x y = nb' x y) → tiesR nb l = tiesR nb' l
  | [], _ => rfl
  | x :: l, h => by
    unfold tiesR
    rw [tiesR_congr fun u hu v hv => h u (List.mem_cons_of_mem _ hu) v (List.mem_cons_of_mem _ hv)]
    congr 2
    exact List.filter_congr fun y hy => h x List.mem_cons_self y (List.mem_cons_of_mem _ hy)
/-! ### pieces -/
theorem mem_pieces (sy : ∀ x y, nb x y = nb y x) (hn : ps.Nodup) {q : List Str} : q ∈ pieces nb ps ↔ ∃ p ∈ ps, q = clsL nb ps p := by
  obtain ⟨h1, h2⟩ := pieces_ok (nb := nb) sy hn
  constructor
  · exact h1.cl q
  · rintro ⟨p, hp, rfl⟩
    obtain ⟨q, hq, hpq⟩ := h2 p hp
    obtain ⟨p', hp', e⟩ := h1.cl q hq
    rw [e] at hpq
    rw [cls_eq sy hp' hpq, ← e]
    exact hq
theorem pieces_nd (sy : ∀ x y, nb x y = nb y x) (hn : ps.Nodup) : (pieces nb ps).Nodup := by
  obtain ⟨h1, _⟩ := pieces_ok (nb := nb) sy hn
  have key : ∀ f : List (List Str), f.flatten.Nodup → (∀ q ∈ f, q ≠ []) → f.Nodup := by
    intro f
    induction f with
    | nil => exact fun _ _ => List.nodup_nil
    | cons q f ih =>
      intro hf he
      rw [List.flatten_cons] at hf
      obtain ⟨_, k2, k3⟩ := List.nodup_append.mp hf
      refine List.nodup_cons.mpr ⟨fun hm => ?_, ih k2 fun q hq => he q (List.mem_cons_of_mem _ hq)⟩
      obtain ⟨x, hx⟩ := List.exists_mem_of_ne_nil q (he q List.mem_cons_self)
      exact k3 x hx x (List.mem_flatten.mpr ⟨q, hm, hx⟩) rfl
  refine key _ h1.nd fun q hq e => ?_
  obtain ⟨p', hp', rfl⟩ := h1.cl q hq
  have := self_cls (nb := nb) hp'
  rw [e] at this
  cases this
theorem cls_iff {p x : Str} : x ∈ clsL nb ps p ↔ x ∈ ps ∧ Rch nb (fun z => z ∈ ps) p x := mem_cls
theorem cls_same (sy : ∀ x y, nb x y = nb y x) {p q : Str} (hp : p ∈ ps) (hq : q ∈ ps) : clsL nb ps p = clsL nb ps q ↔ Rch nb (fun z => z ∈ ps) p q := by
  constructor
  · intro e
    have := self_cls (nb := nb) hq
    rw [← e] at this
    exact (cls_iff.mp this).2
  · exact fun h => (cls_eq sy hp (cls_iff.mpr ⟨hq, h⟩)).symm
theorem rch_add {x y : Str} (h : Rch nb (fun z => z ∈ ps) x y) : Rch (addT nb a b) (fun z => z ∈ ps) x y := by
  induction h with
  | refl => exact .refl
  | step _ hc hn ih => exact .step ih hc (by unfold addT; rw [hn, Bool.true_or])
/-- with a tie more: what hung together, or by way of the tie -/
theorem rch_more (ha : a ∈ ps) (hb : b ∈ ps) {x y : Str} (h : Rch (addT nb a b) (fun z => z ∈ ps) x y) : Rch nb (fun z => z ∈ ps) x y ∨ (Rch nb (fun z => z ∈ ps) x a ∧ Rch nb (fun z => z ∈ ps) b y) ∨ (Rch nb (fun z => z ∈ ps) x b ∧ Rch nb (fun z => z ∈ ps) a y) := by
  induction h with
  | refl => exact .inl .refl
  | step _ hc hn ih =>
    unfold addT at hn
    rw [Bool.or_eq_true, isP_iff] at hn
    rcases hn with hn | ⟨rfl, rfl⟩ | ⟨rfl, rfl⟩
    · rcases ih with z | ⟨z, w⟩ | ⟨z, w⟩
      · exact .inl (.step z hc hn)
      · exact .inr (.inl ⟨z, .step w hc hn⟩)
      · exact .inr (.inr ⟨z, .step w hc hn⟩)
    · rcases ih with z | ⟨z, w⟩ | ⟨z, w⟩
      · exact .inr (.inl ⟨z, .refl⟩)
      · exact .inr (.inl ⟨z, .refl⟩)
      · exact .inl z
    · rcases ih with z | ⟨z, w⟩ | ⟨z, w⟩
      · exact .inr (.inr ⟨z, .refl⟩)
      · exact .inl z
      · exact .inr (.inr ⟨z, .refl⟩)
theorem addT_sy (sy : ∀ x y, nb x y = nb y x) (x y : Str) : addT nb a b x y = addT nb a b y x := by unfold addT; rw [sy, isP_sy]
theorem rch_tie (hb : b ∈ ps) : Rch (addT nb a b) (fun z => z ∈ ps) a b := .step .refl hb (by unfold addT; rw [show isP a b a b = true by rw [isP_iff]; exact .inl ⟨rfl, rfl⟩, Bool.or_true])
theorem pieces_same (sy : ∀ x y, nb x y = nb y x) (ha : a ∈ ps) (hb : b ∈ ps) (h : Rch nb (fun z => z ∈ ps) a b) : pieces (addT nb a b) ps = pieces nb ps := by
  have hs := h.symm sy ha
  have e : clsL (addT nb a b) ps = clsL nb ps := by
    funext p
    unfold clsL
    refine List.filter_congr fun x hx => ?_
    rw [Bool.eq_iff_iff, cmpB_iff, cmpB_iff]
    constructor
    · intro k
      rcases rch_more ha hb k with z | ⟨z, w⟩ | ⟨z, w⟩
      · exact z
      · exact (z.trans h).trans w
      · exact (z.trans hs).trans w
    · exact rch_add
  unfold pieces
  rw [e]
theorem pieces_less (sy : ∀ x y, nb x y = nb y x) (hn : ps.Nodup) (ha : a ∈ ps) (hb : b ∈ ps) (h : ¬ Rch nb (fun z => z ∈ ps) a b) : (pieces (addT nb a b) ps).length + 1 = (pieces nb ps).length := by
  have sy' := addT_sy (a := a) (b := b) sy
  have hab : clsL nb ps a ≠ clsL nb ps b := fun e => h ((cls_same sy ha hb).mp e)
  have mA : clsL nb ps a ∈ pieces nb ps := (mem_pieces sy hn).mpr ⟨a, ha, rfl⟩
  have mB : clsL nb ps b ∈ (pieces nb ps).erase (clsL nb ps a) := (List.mem_erase_of_ne hab.symm).mpr ((mem_pieces sy hn).mpr ⟨b, hb, rfl⟩)
  have nd := pieces_nd (nb := nb) sy hn
  have hC : ∀ p ∈ ps, Rch nb (fun z => z ∈ ps) p a ∨ Rch nb (fun z => z ∈ ps) p b → clsL (addT nb a b) ps p = clsL (addT nb a b) ps a := fun p hp k => (cls_same sy' hp ha).mpr (k.elim rch_add fun k => (rch_add k).trans ((rch_tie hb).symm sy' ha))
  have hD : ∀ p ∈ ps, ¬ Rch nb (fun z => z ∈ ps) p a → ¬ Rch nb (fun z => z ∈ ps) p b → clsL (addT nb a b) ps p = clsL nb ps p := fun p hp k1 k2 => by
    unfold clsL
    refine List.filter_congr fun x hx => ?_
    rw [Bool.eq_iff_iff, cmpB_iff, cmpB_iff]
    constructor
    · intro k
      rcases rch_more ha hb k with z | ⟨z, w⟩ | ⟨z, w⟩
      · exact z
      · exact absurd z k1
      · exact absurd z k2
    · exact rch_add
  have hP : (pieces (addT nb a b) ps).Perm (clsL (addT nb a b) ps a :: ((pieces nb ps).erase (clsL nb ps a)).erase (clsL nb ps b)) := by
    refine (List.perm_ext_iff_of_nodup (pieces_nd sy' hn) (List.nodup_cons.mpr ⟨fun hm => ?_, (nd.erase _).erase _⟩)).mpr fun q => ?_
    · have := List.mem_of_mem_erase (List.mem_of_mem_erase hm)
      obtain ⟨p, hp, e⟩ := (mem_pieces sy hn).mp this
      have h1 : a ∈ clsL nb ps p := by rw [← e]; exact self_cls ha
      have h2 : b ∈ clsL nb ps p := by rw [← e]; exact cls_iff.mpr ⟨hb, rch_tie hb⟩
      exact h (((cls_iff.mp h1).2.symm sy hp).trans (cls_iff.mp h2).2)
    · rw [mem_pieces sy' hn, List.mem_cons, (nd.erase _).mem_erase_iff, nd.mem_erase_iff, mem_pieces sy hn]
      constructor
      · rintro ⟨p, hp, rfl⟩
        by_cases k1 : Rch nb (fun z => z ∈ ps) p a
        · exact .inl (hC p hp (.inl k1))
        · by_cases k2 : Rch nb (fun z => z ∈ ps) p b
          · exact .inl (hC p hp (.inr k2))
          · rw [hD p hp k1 k2]
            exact .inr ⟨fun e => k2 ((cls_same sy hp hb).mp e), fun e => k1 ((cls_same sy hp ha).mp e), p, hp, rfl⟩
      · rintro (rfl | ⟨k2, k1, p, hp, rfl⟩)
        · exact ⟨a, ha, rfl⟩
        · exact ⟨p, hp, (hD p hp (fun e => k1 ((cls_same sy hp ha).mpr e)) fun e => k2 ((cls_same sy hp hb).mpr e)).symm⟩
  have l1 := hP.length_eq
  have l2 := List.length_erase_of_mem mA
  have l3 := List.length_erase_of_mem mB
  have l4 := List.length_pos_of_mem mA
  have l5 := List.length_pos_of_mem mB
  rw [List.length_cons] at l1
  omega
/-- no ties: each post is a piece -/
theorem pieces_none (sy : ∀ x y, nb x y = nb y x) (hn : ps.Nodup) (h : ∀ x ∈ ps, ∀ y ∈ ps, nb x y = true → x = y) : (pieces nb ps).length = ps.length := by
  have e : ∀ {x y : Str}, x ∈ ps → Rch nb (fun z => z ∈ ps) x y → x = y := fun {x y} hx k => by
    induction k with
    | refl => rfl
    | step k hc hn ih =>
      subst ih
      exact h _ hx _ hc hn
  have hP : (pieces nb ps).Perm (ps.map fun p => [p]) := by
    refine (List.perm_ext_iff_of_nodup (pieces_nd sy hn) (List.pairwise_map.mpr (hn.imp fun h e => h (by simpa using e)))).mpr fun q => ?_
    rw [mem_pieces sy hn, List.mem_map]
    have : ∀ p ∈ ps, clsL nb ps p = [p] := fun p hp => by
      have hnd : (clsL nb ps p).Nodup := cls_nd hn
      have hall : ∀ x ∈ clsL nb ps p, x = p := fun x hx => (e hp (cls_iff.mp hx).2).symm
      have hm := self_cls (nb := nb) hp
      generalize clsL nb ps p = c at hnd hall hm
      match c, hnd, hall, hm with
      | [], _, _, hm => cases hm
      | [x], _, hall, _ => rw [hall x List.mem_cons_self]
      | x :: y :: l, hnd, hall, _ =>
        have h1 := hall x List.mem_cons_self
        have h2 := hall y (List.mem_cons_of_mem _ List.mem_cons_self)
        subst h1 h2
        simp at hnd
    constructor
    · rintro ⟨p, hp, rfl⟩; exact ⟨p, hp, (this p hp).symm⟩
    · rintro ⟨p, hp, rfl⟩; exact ⟨p, hp, (this p hp).symm⟩
  rw [hP.length_eq, List.length_map]
end
end DM
end
section
set_option autoImplicit false
set_option Elab.async false
set_option linter.all false
set_option maxRecDepth 100000
set_option maxHeartbeats 4000000
/-! DM66: x in (..), a tuple of any data. -/
namespace DM
open PySem PySem.Spec PyProof.Rows L2
section
variable {X : Cx}
def rInTD (K : PySem.W.Frag) (neg : Bool) : R2 := fun x y H Q => ∃ d ds, Dp K H x d ∧ Dp K H y (.tuple ds) ∧ SeqAt.shaped d = true ∧ SeqAt.shaped (.tuple ds) = true ∧ Q (.bl ((ds.any fun z => PyData.eqv z d) != neg)) H
theorem op_notInTD (hu : X.A.units + 65 < cLine) : OpR X (compareOp .NotIn) (rInTD X.K true) := by
  intro pins s σ H x y v u Q I rx ry h
  obtain ⟨d, ds, hd, he, sd, se, q⟩ := h
  obtain ⟨as, r1⟩ := Dp.reads I d x v hd rx
  obtain ⟨bs, r2⟩ := Dp.reads I (.tuple ds) y u he ry
  refine SeqAt.notIn_tuple_reads r2 r1 (SeqAt.canLay_of_shaped se) (SeqAt.canLay_of_shaped sd) (room_in_shaped sd hu) ⟨.bl _, H, I, rfl, ?_⟩
  rwa [show ∀ b : Bool, (b != true) = !b by intro b; cases b <;> rfl] at q
end
def inTB (neg : Bool) (d e : D) : Option D := match tupD e with
  | some l => (match toPy d, toPyL l with
    | some p, some ps => if p.depth ≤ 64 ∧ PyData.depthAll ps ≤ 60 then some (.bl ((ps.any fun z => PyData.eqv z p) != neg)) else none
    | _, _ => none)
  | none => none
theorem prim_inT {C : Cl} {neg : Bool} : Prim2 C (rInTD C.K neg) (inTB neg) := by
  intro F H d1 d2 d x y Q s h1 h2 e q
  unfold inTB at e
  cases q1 : tupD d2 with
  | none => rw [q1] at e; cases e
  | some l =>
    rw [q1] at e
    dsimp only at e
    cases q2 : toPy d1 with
    | none => rw [q2] at e; cases e
    | some p =>
      cases q3 : toPyL l with
      | none => rw [q2, q3] at e; cases e
      | some ps =>
        rw [q2, q3] at e
        dsimp only at e
        split at e
        · rename_i hc
          cases e
          obtain ⟨a1, a2⟩ := dp_of d1 x p (h1.rep s) q2
          obtain ⟨a, xs, rfl, b0, b1⟩ := tupD_sq (K := C.K) s h2 q1
          obtain ⟨c1, c2⟩ := dp_ofL l xs ps (RepL.mono s l xs b1) q3
          have sh : SeqAt.shaped (.tuple ps) = true := shaped_of (by unfold PyData.canLay0; exact c2) (by simp only [PyData.depth]; omega)
          exact ⟨p, ps, a1, .tup b0 c1, shaped_of a2 hc.1, sh, q _ _ _ _ (NewOk.plain rfl rep_bl)⟩
        · cases e
theorem inT_pl {d : D} {l : List D} {n : Bool} (h : pl 60 d = true) (k : l.all (pl 59) = true) : inTB n d (.tup l) = some (.bl (decide (d ∈ l) != n)) := by
  obtain ⟨p, e1, b1⟩ := pl_py 60 d h
  obtain ⟨ps, e2, b2⟩ := pl_pyL (pl_py 59) l k
  unfold inTB
  show (match toPy d, toPyL l with
    | some p, some ps => if p.depth ≤ 64 ∧ PyData.depthAll ps ≤ 60 then some (D.bl ((ps.any fun z => PyData.eqv z p) != n)) else none
    | _, _ => none) = _
  rw [e1, e2]
  dsimp only
  rw [if_pos ⟨by omega, by omega⟩, any_pl h e1 l ps k e2]
end DM
end
section
set_option autoImplicit false
set_option Elab.async false
set_option linter.all false
set_option maxRecDepth 100000
set_option maxHeartbeats 4000000
namespace Lw
open PySem PySem.Spec PyProof.Rows L2 DM
def topS (i : Nat) : Stmt := PySem.Challenge.pw_crossties_k09_whole_maps_put_together.main.body.getD i (.Pass ⟨0, 0, 0, 0⟩)
def clsS (i j : Nat) : Stmt := match topS i with
  | .ClassDef (body := b) .. => b.getD j (.Pass ⟨0, 0, 0, 0⟩)
  | _ => .Pass ⟨0, 0, 0, 0⟩
structure Facts (K : PySem.W.Frag) (mg : Str → Option Value) (cl : String → Option Addr) : Prop where
  abs : mg "abs" = none
  all : mg "all" = none
  enumerate : mg "enumerate" = none
  int : mg "int" = none
  isinstance : mg "isinstance" = none
  len : mg "len" = none
  list : mg "list" = none
  max : mg "max" = none
  range : mg "range" = none
  sorted : mg "sorted" = none
  str : mg "str" = none
  tuple : mg "tuple" = none
  FIGURES : ∃ t, mg "FIGURES" = some (.str "0123456789" t)
  LETTERS : ∃ t, mg "LETTERS" = some (.str "abcdefghijklmnopqrstuvwxyz" t)
  c_Map : ClS K ⟨K, cl⟩ "Map" ["own_posts", "own_numbers", "own_near"]
  ne_Map : NeS K ⟨K, cl⟩ "Map"
  is_Map : IsS K mg ⟨K, cl⟩ "Map" "Map"
section
variable {P : Program} {w : World} {K : PySem.W.Frag} {mg : Str → Option Value} {base : Heap} {cl : String → Option Addr}
abbrev s_law_source : Stmt := topS 25
theorem sc_law_source : FnScope ["_law_script", "_law_mixed_here", "_law_cell"] ["_law_script"] (defScope s_law_source) := ⟨rfl, rfl, rfl, by decide +kernel, rfl, by decide +kernel, by decide +kernel⟩
def m_law_source : M Fl := (sSeq (sAsg 1 (eC (.int 11)))
  (sSeq (sFor (mItems (oB 0)) (bName 2) (sAsg 1 (eBin (intD modI) (oVal (eBt (fn1 toIntD) (mCons (oVal (eBin addD (oVal (eBin addD (oVal (eBin mulD (oB 1) (oVal (eC (.int 69069))))) (oVal (eBin mulD (oB 2) (oVal (eC (.int 31))))))) (oVal (eC (.int 5))))) (retM [])))) (oVal (eC (.int 2147483629))))))
  (sRet (eDisp (pCons (eC (.str "cells")) (eUn revD (oVal (mLc [2] (mItems (oB 0)) (bName 2) (retM true) (eBt (fn1 absD) (mCons (oB 2) (retM [])))))) (pCons (eC (.str "left")) (mPlain (eC (.int 1))) (pCons (eC (.str "mixed")) (mPlain (eV 1)) (pCons (eC (.str "turn")) (mPlain (eC (.int 0))) (retM [])))))))))
def g_law_source : Sig := ⟨[.bo], (some 1), runF 3 [.bo] m_law_source⟩
theorem ok_law_source {f : Addr} {fd : FuncData} {k : Nat} (hk : 0 ≤ k) (z : Facts K mg cl) (F : Fun K "_law_source" "_law_source" s_law_source f fd) :
    FnG P w K mg base (L2.CX P w) (k + 1) f fd ["_law_script"] (spOf ⟨K, cl⟩ g_law_source) :=
  fn_ok (G' := [.bo] ++ [.fz, .fz]) (ls := [.fz, .fz]) F sc_law_source rfl rfl rfl rfl fun cdv A outer s H E vs hr ok =>
    (sb_cons (ss_asg ok.nd (i := 1) rfl (by first | exact .inl rfl | exact .inr rfl) rfl sv_int (pinOk rfl))
      (sb_cons (ss_for (passes_of rfl) ok (si_any ok (so_var (i := 0) rfl (by first | exact .inl rfl | exact .inr (.inl rfl) | exact .inr (.inr rfl)))) (sg_name ok.nd (i := 2) rfl (by first | exact .inl rfl | exact .inr rfl) rfl (pinOk rfl)) (sb_one (ss_asg ok.nd (i := 1) rfl (by first | exact .inl rfl | exact .inr rfl) rfl (sv_of (sf_bin (op_mod) prim_mod (so_of (sv_of (sf_callTy prim_toInt (call_int1) (by rfl) z.int (by decide +kernel) (sa_cons (so_of (sv_of (sf_bin (op_addA) prim_add (so_of (sv_of (sf_bin (op_addA) prim_add (so_of (sv_of (sf_bin (op_mulA) prim_mul (so_var (i := 1) rfl (by first | exact .inl rfl | exact .inr (.inl rfl) | exact .inr (.inr rfl))) (so_of sv_int)))) (so_of (sv_of (sf_bin (op_mulA) prim_mul (so_var (i := 2) rfl (by first | exact .inl rfl | exact .inr (.inl rfl) | exact .inr (.inr rfl))) (so_of sv_int))))))) (so_of sv_int)))) sa_nil)))) (so_of sv_int))) (pinOk rfl))))
      (sb_one (ss_retF rfl (sf_dispN (n := 0) (sps_cons (n := some 0) sv_str (sf_rev ok (so_of (sv_of (sf_lc ok (g := (gName 2)) (si_any ok (so_var (i := 0) rfl (by first | exact .inl rfl | exact .inr (.inl rfl) | exact .inr (.inr rfl)))) (own := [("_law_cell", 2)]) (blkOk_by rfl) (fun s2 H2 c2 cl2 fp2 => (sg_name (ok.blk s2 H2 _ c2 cl2 fp2).nd (i := 2) rfl (by first | exact .inl rfl | exact .inr rfl) rfl (pinOk rfl))) (fun s2 H2 c2 cl2 fp2 => sts_nil) (fun s2 H2 c2 cl2 fp2 => (sv_of (sf_callB prim_abs (call_abs) (by rfl) z.abs (by decide +kernel) (sa_cons (so_var (i := 2) rfl (by first | exact .inl rfl | exact .inr (.inl rfl) | exact .inr (.inr rfl))) sa_nil)))) (allIn (is := [2]) (by decide)) (by decide) (allFz rfl) (pinOks rfl))))) (sps_cons (n := some 0) sv_str (sf_plain sv_int) (sps_cons (n := some 0) sv_str (sf_plain (sv_var (i := 1) rfl (by first | exact .inl rfl | exact .inr (.inl rfl) | exact .inr (.inr rfl)) rfl)) (sps_cons (n := some 0) sv_str (sf_plain sv_int) sps_nil)))))))))
abbrev s_law_pick : Stmt := topS 26
theorem sc_law_pick : FnScope ["_law_source_here", "_law_many", "_law_left", "_law_mixed_here"] ["_law_source_here", "_law_many"] (defScope s_law_pick) := ⟨rfl, rfl, rfl, by decide +kernel, rfl, by decide +kernel, by decide +kernel⟩
noncomputable def m_law_pick : M Fl := (sSeq (sWhile (mAnd (tOf (eBin (cmpD fun i j => decide (j < i)) (oB 1) (oVal (eC (.int 1))))) (mAnd (tOf (eBin (cmpD fun i j => decide (i < j)) (oVal (mEntS 0 (rdC (.str "left")))) (oVal (eC (.int 2))))) (tOf (eBin (cmpD fun i j => decide (j < i)) (oVal (mEntLen 0 (rdC (.str "cells")))) (oVal (eC (.int 0))))))) (sDput 0 1 (mEntPop 0 (rdC (.str "cells"))) (eC (.str "left"))))
  (sSeq (sAsg 2 (mEntS 0 (rdC (.str "left"))))
  (sSeq (sIf (mOr (tOf (eBin (cmpD fun i j => decide (i < j)) (oB 1) (oVal (eC (.int 2))))) (tOf (eBin (cmpD fun i j => decide (j < i)) (oB 2) (oVal (eC (.int 1)))))) (sSeq (sDput 0 1 (eBin (intD divI) (oB 2) (oVal (eBt (fn2 maxD) (mCons (oVal (eC (.int 1))) (mCons (oB 1) (retM [])))))) (eC (.str "left")))
  (sRet (eBin (intD modI) (oVal (eBt (fn1 toIntD) (mCons (oB 2) (retM [])))) (oVal (eBt (fn2 maxD) (mCons (oVal (eC (.int 1))) (mCons (oB 1) (retM [])))))))) (retM .nx))
  (sSeq (sDput 0 1 (eBin addD (oVal (mEntS 0 (rdC (.str "turn")))) (oVal (eC (.int 1)))) (eC (.str "turn")))
  (sSeq (sAsg 3 (eBin (intD modI) (oVal (eBt (fn1 toIntD) (mCons (oVal (eBin addD (oVal (mEntS 0 (rdC (.str "mixed")))) (oVal (eBin mulD (oVal (mEntS 0 (rdC (.str "turn")))) (oVal (eC (.int 104729))))))) (retM [])))) (oVal (eC (.int 998244353)))))
  (sSeq (sAsg 3 (eBin (intD modI) (oVal (eBt (fn1 toIntD) (mCons (oVal (eBin addD (oVal (eBin mulD (oB 3) (oB 3))) (oVal (eBin mulD (oVal (mEntS 0 (rdC (.str "turn")))) (oVal (eC (.int 17))))))) (retM [])))) (oVal (eC (.int 2147483647)))))
  (sRet (eBin (intD modI) (oVal (eBt (fn1 toIntD) (mCons (oVal (eBin (intD divI) (oB 3) (oVal (eC (.int 16))))) (retM [])))) (oB 1)))))))))
noncomputable def g_law_pick : Sig := ⟨[.ow 1, .bo], none, runF 4 [.ow 1, .bo] m_law_pick⟩
theorem ok_law_pick {f : Addr} {fd : FuncData} {k : Nat} (hk : 0 ≤ k) (z : Facts K mg cl) (F : Fun K "_law_pick" "_law_pick" s_law_pick f fd) :
    FnG P w K mg base (L2.CX P w) (k + 1) f fd ["_law_source_here", "_law_many"] (spOf ⟨K, cl⟩ g_law_pick) :=
  fn_ok (G' := [.ow 1, .bo] ++ [.fz, .fz]) (ls := [.fz, .fz]) F sc_law_pick rfl rfl rfl rfl fun cdv A outer s H E vs hr ok =>
    (sb_cons (ss_while (passes_of rfl) (st_of_w (sw_and (st_cmp (op_gt) prim_cmp (so_var (i := 1) rfl (by first | exact .inl rfl | exact .inr (.inl rfl) | exact .inr (.inr rfl))) (so_of sv_int) (nomark _)) (sw_and (st_cmp (op_lt) prim_cmp (so_of (sv_entS (i := 0) ok rfl (by first | exact .inl rfl | exact .inr (.inl rfl) | exact .inr (.inr rfl)) sr_str rfl (fun _ _ => rfl))) (so_of sv_int) (nomark _)) (sw_and1 (st_cmp (op_gt) prim_cmp (so_of (sv_entLen (i := 0) ok (by rfl) z.len rfl (by first | exact .inl rfl | exact .inr (.inl rfl) | exact .inr (.inr rfl)) sr_str rfl (fun _ _ => rfl))) (so_of sv_int) (nomark _)))))) (sb_one (ss_dput (i := 0) (n := 1) ok rfl (by first | exact .inl rfl | exact .inr (.inl rfl) | exact .inr (.inr rfl)) (sv_entPop (i := 0) ok rfl (by first | exact .inl rfl | exact .inr (.inl rfl) | exact .inr (.inr rfl)) sr_str rfl (fun _ _ => rfl)) sv_str rfl rfl)))
      (sb_cons (ss_asg ok.nd (i := 2) rfl (by first | exact .inl rfl | exact .inr rfl) rfl (sv_entS (i := 0) ok rfl (by first | exact .inl rfl | exact .inr (.inl rfl) | exact .inr (.inr rfl)) sr_str rfl (fun _ _ => rfl)) (pinOk rfl))
      (sb_cons (ss_if (st_of_w (sw_or (st_cmp (op_lt) prim_cmp (so_var (i := 1) rfl (by first | exact .inl rfl | exact .inr (.inl rfl) | exact .inr (.inr rfl))) (so_of sv_int) (nomark _)) (sw_or1 (st_cmp (op_gt) prim_cmp (so_var (i := 2) rfl (by first | exact .inl rfl | exact .inr (.inl rfl) | exact .inr (.inr rfl))) (so_of sv_int) (nomark _))))) (sb_cons (ss_dput (i := 0) (n := 1) ok rfl (by first | exact .inl rfl | exact .inr (.inl rfl) | exact .inr (.inr rfl)) (sv_of (sf_bin (op_fdiv) prim_div (so_var (i := 2) rfl (by first | exact .inl rfl | exact .inr (.inl rfl) | exact .inr (.inr rfl))) (so_of (sv_of (sf_callB prim_max (call_max2 (ok).calm) (by rfl) z.max (by decide +kernel) (sa_cons (so_of sv_int) (sa_cons (so_var (i := 1) rfl (by first | exact .inl rfl | exact .inr (.inl rfl) | exact .inr (.inr rfl))) sa_nil))))))) sv_str rfl rfl)
      (sb_one (ss_ret rfl (sv_of (sf_bin (op_mod) prim_mod (so_of (sv_of (sf_callTy prim_toInt (call_int1) (by rfl) z.int (by decide +kernel) (sa_cons (so_var (i := 2) rfl (by first | exact .inl rfl | exact .inr (.inl rfl) | exact .inr (.inr rfl))) sa_nil)))) (so_of (sv_of (sf_callB prim_max (call_max2 (ok).calm) (by rfl) z.max (by decide +kernel) (sa_cons (so_of sv_int) (sa_cons (so_var (i := 1) rfl (by first | exact .inl rfl | exact .inr (.inl rfl) | exact .inr (.inr rfl))) sa_nil)))))))))) sb_nil)
      (sb_cons (ss_dput (i := 0) (n := 1) ok rfl (by first | exact .inl rfl | exact .inr (.inl rfl) | exact .inr (.inr rfl)) (sv_of (sf_bin (op_addA) prim_add (so_of (sv_entS (i := 0) ok rfl (by first | exact .inl rfl | exact .inr (.inl rfl) | exact .inr (.inr rfl)) sr_str rfl (fun _ _ => rfl))) (so_of sv_int))) sv_str rfl rfl)
      (sb_cons (ss_asg ok.nd (i := 3) rfl (by first | exact .inl rfl | exact .inr rfl) rfl (sv_of (sf_bin (op_mod) prim_mod (so_of (sv_of (sf_callTy prim_toInt (call_int1) (by rfl) z.int (by decide +kernel) (sa_cons (so_of (sv_of (sf_bin (op_addA) prim_add (so_of (sv_entS (i := 0) ok rfl (by first | exact .inl rfl | exact .inr (.inl rfl) | exact .inr (.inr rfl)) sr_str rfl (fun _ _ => rfl))) (so_of (sv_of (sf_bin (op_mulA) prim_mul (so_of (sv_entS (i := 0) ok rfl (by first | exact .inl rfl | exact .inr (.inl rfl) | exact .inr (.inr rfl)) sr_str rfl (fun _ _ => rfl))) (so_of sv_int))))))) sa_nil)))) (so_of sv_int))) (pinOk rfl))
      (sb_cons (ss_asg ok.nd (i := 3) rfl (by first | exact .inl rfl | exact .inr rfl) rfl (sv_of (sf_bin (op_mod) prim_mod (so_of (sv_of (sf_callTy prim_toInt (call_int1) (by rfl) z.int (by decide +kernel) (sa_cons (so_of (sv_of (sf_bin (op_addA) prim_add (so_of (sv_of (sf_bin (op_mulA) prim_mul (so_var (i := 3) rfl (by first | exact .inl rfl | exact .inr (.inl rfl) | exact .inr (.inr rfl))) (so_var (i := 3) rfl (by first | exact .inl rfl | exact .inr (.inl rfl) | exact .inr (.inr rfl)))))) (so_of (sv_of (sf_bin (op_mulA) prim_mul (so_of (sv_entS (i := 0) ok rfl (by first | exact .inl rfl | exact .inr (.inl rfl) | exact .inr (.inr rfl)) sr_str rfl (fun _ _ => rfl))) (so_of sv_int))))))) sa_nil)))) (so_of sv_int))) (pinOk rfl))
      (sb_one (ss_ret rfl (sv_of (sf_bin (op_mod) prim_mod (so_of (sv_of (sf_callTy prim_toInt (call_int1) (by rfl) z.int (by decide +kernel) (sa_cons (so_of (sv_of (sf_bin (op_fdiv) prim_div (so_var (i := 3) rfl (by first | exact .inl rfl | exact .inr (.inl rfl) | exact .inr (.inr rfl))) (so_of sv_int)))) sa_nil)))) (so_var (i := 1) rfl (by first | exact .inl rfl | exact .inr (.inl rfl) | exact .inr (.inr rfl)))))))))))))
abbrev s_law_names : Stmt := topS 29
theorem sc_law_names : FnScope ["_law_source_here", "_law_many", "_law_k", "_law_shift", "_law_names_here", "_law_tails", "_law_letter"] ["_law_source_here", "_law_many"] (defScope s_law_names) := ⟨rfl, rfl, rfl, by decide +kernel, rfl, by decide +kernel, by decide +kernel⟩
noncomputable def m_law_names : M Fl := (sSeq (sSetL [3, 4, 5] (xCons (callM g_law_pick (some (0, 0)) (mCons (oB 0) (mCons (oVal (eC (.int 100))) (retM [])))) (xCons (eLst (retM [])) (xCons (eLst (xCons (eC (.str "")) (xCons (eC (.str "")) (xCons (eC (.str "")) (xCons (eC (.str "k")) (xCons (eC (.str "kkkkkkkkk")) (retM []))))))) (retM [])))))
  (sSeq (sFor (mRange1 (xCons (eV 1) (retM []))) (bName 2) (sSeq (sAsg 6 (eBin idxD (oVal (eC (.str "abcdefghijklmnopqrstuvwxyz"))) (oVal (callM g_law_pick (some (0, 0)) (mCons (oB 0) (mCons (oVal (eC (.int 26))) (retM [])))))))
  (sExpr (callMut 4 appD (xCons (eBin addD (oVal (eBin addD (oB 6) (oVal (eSlice (oVal (eBt (fn1 strD) (mCons (oVal (eBin addD (oVal (eC (.int 100))) (oVal (eBin (intD modI) (oVal (eBt (fn1 toIntD) (mCons (oVal (eBin addD (oB 3) (oVal (eBin mulD (oVal (eC (.int 37))) (oB 2))))) (retM [])))) (oVal (eC (.int 100))))))) (retM [])))) (mPart (eC (.int 1))) (retM none))))) (oVal (eBin idxD (oB 5) (oVal (callM g_law_pick (some (0, 0)) (mCons (oB 0) (mCons (oVal (eC (.int 5))) (retM [])))))))) (retM []))))))
  (sRet (eMov 4))))
noncomputable def g_law_names : Sig := ⟨[.ow 1, .fz], none, runF 7 [.ow 1, .fz] m_law_names⟩
theorem ok_law_names {f : Addr} {fd : FuncData} {k : Nat} (hk : 1 ≤ k) (z : Facts K mg cl) (F : Fun K "_law_names" "_law_names" s_law_names f fd) (h_law_pick : FnL P w K mg base ⟨K, cl⟩ "_law_pick" 1 g_law_pick) :
    FnG P w K mg base (L2.CX P w) (k + 1) f fd ["_law_source_here", "_law_many"] (spOf ⟨K, cl⟩ g_law_names) :=
  fn_ok (G' := [.ow 1, .fz] ++ [.fz, .fz, .ow 0, .fz, .fz]) (ls := [.fz, .fz, .ow 0, .fz, .fz]) F sc_law_names rfl rfl rfl rfl fun cdv A outer s H E vs hr ok =>
    (sb_cons (ss_par3 ok (i := 3) (j := 4) (l := 5) rfl rfl rfl (by decide) (by decide) (by decide) rfl rfl rfl (sx_cons (k := none) (sv_call ok (h_law_pick _ (by omega)) hr (by rfl) (sa_cons (so_var (i := 0) rfl (by first | exact .inl rfl | exact .inr (.inl rfl) | exact .inr (.inr rfl))) (sa_cons (so_of sv_int) sa_nil)) rfl rfl rfl rfl) (sx_cons (k := some 0) (sf_lst sx_nil) (sx_cons (k := none) (sv_of (sf_lst (sx_cons (k := none) sv_str (sx_cons (k := none) sv_str (sx_cons (k := none) sv_str (sx_cons (k := none) sv_str (sx_cons (k := none) sv_str sx_nil))))))) sx_nil))) (pinAll rfl) (allLt rfl) rfl)
      (sb_cons (ss_for (passes_of rfl) ok (si_range1 (by rfl) z.range (sx_cons (k := none) (sv_var (i := 1) rfl (by first | exact .inl rfl | exact .inr (.inl rfl) | exact .inr (.inr rfl)) rfl) sx_nil)) (sg_name ok.nd (i := 2) rfl (by first | exact .inl rfl | exact .inr rfl) rfl (pinOk rfl)) (sb_cons (ss_asg ok.nd (i := 6) rfl (by first | exact .inl rfl | exact .inr rfl) rfl (sv_idx ok (so_of sv_str) (so_of (sv_call ok (h_law_pick _ (by omega)) hr (by rfl) (sa_cons (so_var (i := 0) rfl (by first | exact .inl rfl | exact .inr (.inl rfl) | exact .inr (.inr rfl))) (sa_cons (so_of sv_int) sa_nil)) rfl rfl rfl rfl)) (fun _ _ => rfl)) (pinOk rfl))
      (sb_one (ss_expr (sv_mut (i := 4) mut_append ok PySem.F.slot_list_append PySem.F.type_list_append (mt_append) rfl (by first | exact .inl rfl | exact .inr (.inl rfl) | exact .inr (.inr rfl)) rfl rfl (sx_cons (k := none) (sv_of (sf_bin (op_addA) prim_add (so_of (sv_of (sf_bin (op_addA) prim_add (so_var (i := 6) rfl (by first | exact .inl rfl | exact .inr (.inl rfl) | exact .inr (.inr rfl))) (so_of (sv_of (sf_slice ok (so_of (sv_of (sf_callTy prim_str (call_str_int) (by rfl) z.str (by decide +kernel) (sa_cons (so_of (sv_of (sf_bin (op_addA) prim_add (so_of sv_int) (so_of (sv_of (sf_bin (op_mod) prim_mod (so_of (sv_of (sf_callTy prim_toInt (call_int1) (by rfl) z.int (by decide +kernel) (sa_cons (so_of (sv_of (sf_bin (op_addA) prim_add (so_var (i := 3) rfl (by first | exact .inl rfl | exact .inr (.inl rfl) | exact .inr (.inr rfl))) (so_of (sv_of (sf_bin (op_mulA) prim_mul (so_of sv_int) (so_var (i := 2) rfl (by first | exact .inl rfl | exact .inr (.inl rfl) | exact .inr (.inr rfl))))))))) sa_nil)))) (so_of sv_int))))))) sa_nil)))) (sp_some sv_int) sp_none)))))) (so_of (sv_idx ok (so_var (i := 5) rfl (by first | exact .inl rfl | exact .inr (.inl rfl) | exact .inr (.inr rfl))) (so_of (sv_call ok (h_law_pick _ (by omega)) hr (by rfl) (sa_cons (so_var (i := 0) rfl (by first | exact .inl rfl | exact .inr (.inl rfl) | exact .inr (.inr rfl))) (sa_cons (so_of sv_int) sa_nil)) rfl rfl rfl rfl)) (fun _ _ => rfl))))) sx_nil))))))
      (sb_one (ss_ret rfl (sv_of (sf_mov (i := 4) (k := 0) rfl (by first | exact .inl rfl | exact .inr (.inl rfl) | exact .inr (.inr rfl)) rfl))))))
abbrev s_law_mixed : Stmt := topS 28
theorem sc_law_mixed : FnScope ["_law_source_here", "_law_things", "_law_rest", "_law_lap"] ["_law_source_here", "_law_things"] (defScope s_law_mixed) := ⟨rfl, rfl, rfl, by decide +kernel, rfl, by decide +kernel, by decide +kernel⟩
noncomputable def m_law_mixed : M Fl := (sSeq (sAsg 2 (eBt (fn1 listD) (mCons (oB 1) (retM []))))
  (sRet (mLc [3] (mRange1 (xCons (eBt (fn1 lenS) (mCons (oB 2) (retM []))) (retM []))) (bName 3) (retM true) (callMut 2 popAtD (xCons (callM g_law_pick (some (0, 0)) (mCons (oB 0) (mCons (oVal (eBt (fn1 lenS) (mCons (oB 2) (retM [])))) (retM [])))) (retM []))))))
noncomputable def g_law_mixed : Sig := ⟨[.ow 1, .bo], none, runF 4 [.ow 1, .bo] m_law_mixed⟩
theorem ok_law_mixed {f : Addr} {fd : FuncData} {k : Nat} (hk : 1 ≤ k) (z : Facts K mg cl) (F : Fun K "_law_mixed" "_law_mixed" s_law_mixed f fd) (h_law_pick : FnL P w K mg base ⟨K, cl⟩ "_law_pick" 1 g_law_pick) :
    FnG P w K mg base (L2.CX P w) (k + 1) f fd ["_law_source_here", "_law_things"] (spOf ⟨K, cl⟩ g_law_mixed) :=
  fn_ok (G' := [.ow 1, .bo] ++ [.ow 0, .fz]) (ls := [.ow 0, .fz]) F sc_law_mixed rfl rfl rfl rfl fun cdv A outer s H E vs hr ok =>
    (sb_cons (ss_asgF ok.nd (i := 2) (k := 0) rfl (by first | exact .inl rfl | exact .inr rfl) rfl (sf_callTy prim_list (call_list_of) (by rfl) z.list (by decide +kernel) (sa_cons (so_var (i := 1) rfl (by first | exact .inl rfl | exact .inr (.inl rfl) | exact .inr (.inr rfl))) sa_nil)) (pinOk rfl))
      (sb_one (ss_ret rfl (sv_of (sf_lc ok (g := (gName 3)) (si_range1 (by rfl) z.range (sx_cons (k := none) (sv_of (sf_callB prim_lenS (call_len) (by rfl) z.len PySem.boot_len (sa_cons (so_var (i := 2) rfl (by first | exact .inl rfl | exact .inr (.inl rfl) | exact .inr (.inr rfl))) sa_nil))) sx_nil)) (own := [("_law_lap", 3)]) (blkOk_by rfl) (fun s2 H2 c2 cl2 fp2 => (sg_name (ok.blk s2 H2 _ c2 cl2 fp2).nd (i := 3) rfl (by first | exact .inl rfl | exact .inr rfl) rfl (pinOk rfl))) (fun s2 H2 c2 cl2 fp2 => sts_nil) (fun s2 H2 c2 cl2 fp2 => (sv_mut (i := 2) mut_popAt (ok.blk s2 H2 _ c2 cl2 fp2) PySem.F.slot_list_pop PySem.F.type_list_pop (mt_popAt) rfl (by first | exact .inl rfl | exact .inr (.inl rfl) | exact .inr (.inr rfl)) rfl rfl (sx_cons (k := none) (sv_call (ok.blk s2 H2 _ c2 cl2 fp2) (h_law_pick _ (by omega)) hr (by rfl) (sa_cons (so_var (i := 0) rfl (by first | exact .inl rfl | exact .inr (.inl rfl) | exact .inr (.inr rfl))) (sa_cons (so_of (sv_of (sf_callB prim_lenS (call_len) (by rfl) z.len PySem.boot_len (sa_cons (so_var (i := 2) rfl (by first | exact .inl rfl | exact .inr (.inl rfl) | exact .inr (.inr rfl))) sa_nil)))) sa_nil)) rfl rfl rfl rfl) sx_nil))) (allIn (is := [3]) (by decide)) (by decide) (allFz rfl) (pinOks rfl))))))
abbrev s_law_turned_ties : Stmt := topS 32
theorem sc_law_turned_ties : FnScope ["_law_source_here", "_law_ties", "_law_tie"] ["_law_source_here", "_law_ties"] (defScope s_law_turned_ties) := ⟨rfl, rfl, rfl, by decide +kernel, rfl, by decide +kernel, by decide +kernel⟩
noncomputable def m_law_turned_ties : M Fl := (sRet (mLc [2] (mItems (oVal (callM g_law_mixed (some (0, 0)) (mCons (oB 0) (mCons (oB 1) (retM [])))))) (bName 2) (retM true) (eBin idxD (oVal (eLst (xCons (eV 2) (xCons (eUn revD (oB 2)) (retM []))))) (oVal (callM g_law_pick (some (0, 0)) (mCons (oB 0) (mCons (oVal (eC (.int 2))) (retM []))))))))
noncomputable def g_law_turned_ties : Sig := ⟨[.ow 1, .bo], none, runF 3 [.ow 1, .bo] m_law_turned_ties⟩
theorem ok_law_turned_ties {f : Addr} {fd : FuncData} {k : Nat} (hk : 2 ≤ k) (z : Facts K mg cl) (F : Fun K "_law_turned_ties" "_law_turned_ties" s_law_turned_ties f fd) (h_law_mixed : FnL P w K mg base ⟨K, cl⟩ "_law_mixed" 2 g_law_mixed) (h_law_pick : FnL P w K mg base ⟨K, cl⟩ "_law_pick" 1 g_law_pick) :
    FnG P w K mg base (L2.CX P w) (k + 1) f fd ["_law_source_here", "_law_ties"] (spOf ⟨K, cl⟩ g_law_turned_ties) :=
  fn_ok (G' := [.ow 1, .bo] ++ [.fz]) (ls := [.fz]) F sc_law_turned_ties rfl rfl rfl rfl fun cdv A outer s H E vs hr ok =>
    (sb_one (ss_ret rfl (sv_of (sf_lc ok (g := (gName 2)) (si_any ok (so_of (sv_call ok (h_law_mixed _ (by omega)) hr (by rfl) (sa_cons (so_var (i := 0) rfl (by first | exact .inl rfl | exact .inr (.inl rfl) | exact .inr (.inr rfl))) (sa_cons (so_var (i := 1) rfl (by first | exact .inl rfl | exact .inr (.inl rfl) | exact .inr (.inr rfl))) sa_nil)) rfl rfl rfl rfl))) (own := [("_law_tie", 2)]) (blkOk_by rfl) (fun s2 H2 c2 cl2 fp2 => (sg_name (ok.blk s2 H2 _ c2 cl2 fp2).nd (i := 2) rfl (by first | exact .inl rfl | exact .inr rfl) rfl (pinOk rfl))) (fun s2 H2 c2 cl2 fp2 => sts_nil) (fun s2 H2 c2 cl2 fp2 => (sv_idx (ok.blk s2 H2 _ c2 cl2 fp2) (so_of (sv_of (sf_lst (sx_cons (k := none) (sv_var (i := 2) rfl (by first | exact .inl rfl | exact .inr (.inl rfl) | exact .inr (.inr rfl)) rfl) (sx_cons (k := none) (sv_of (sf_rev (ok.blk s2 H2 _ c2 cl2 fp2) (so_var (i := 2) rfl (by first | exact .inl rfl | exact .inr (.inl rfl) | exact .inr (.inr rfl))))) sx_nil))))) (so_of (sv_call (ok.blk s2 H2 _ c2 cl2 fp2) (h_law_pick _ (by omega)) hr (by rfl) (sa_cons (so_var (i := 0) rfl (by first | exact .inl rfl | exact .inr (.inl rfl) | exact .inr (.inr rfl))) (sa_cons (so_of sv_int) sa_nil)) rfl rfl rfl rfl)) (fun _ _ => rfl))) (allIn (is := [2]) (by decide)) (by decide) (allFz rfl) (pinOks rfl)))))
abbrev s_is_list : Stmt := topS 9
theorem sc_is_list : FnScope ["value"] ["value"] (defScope s_is_list) := ⟨rfl, rfl, rfl, by decide +kernel, rfl, by decide +kernel, by decide +kernel⟩
def m_is_list : M Fl := (sRet (mIsi (isi2D "list" "tuple") (oB 0)))
def g_is_list : Sig := ⟨[.bo], none, runF 1 [.bo] m_is_list⟩
theorem ok_is_list {f : Addr} {fd : FuncData} {k : Nat} (hk : 0 ≤ k) (z : Facts K mg cl) (F : Fun K "is_list" "is_list" s_is_list f fd) :
    FnG P w K mg base (L2.CX P w) (k + 1) f fd ["value"] (spOf ⟨K, cl⟩ g_is_list) :=
  fn_ok (G' := [.bo] ++ []) (ls := []) F sc_is_list rfl rfl rfl rfl fun cdv A outer s H E vs hr ok =>
    (sb_one (ss_ret rfl (sv_isi2 ok (by rfl) z.isinstance (so_var (i := 0) rfl (by first | exact .inl rfl | exact .inr (.inl rfl) | exact .inr (.inr rfl))) (by rfl) z.list (by rfl) z.tuple (by decide) (by decide) (by decide +kernel) (by decide +kernel))))
abbrev s_is_word : Stmt := topS 8
theorem sc_is_word : FnScope ["value", "sign"] ["value"] (defScope s_is_word) := ⟨rfl, rfl, rfl, by decide +kernel, rfl, by decide +kernel, by decide +kernel⟩
def m_is_word : M Fl := (sSeq (sIf (mOr (mNot (tOf (mIsi (isiD "str") (oB 0)))) (mOr (tOf (eBin (inRgD true) (oVal (eBt (fn1 lenS) (mCons (oB 0) (retM [])))) (oVal (eRng (xCons (eC (.int 1)) (xCons (eC (.int 13)) (retM []))))))) (tOf (eBin (inB true) (oVal (eBin idxD (oB 0) (oVal (eC (.int 0))))) (oVal (eC (.str "abcdefghijklmnopqrstuvwxyz"))))))) (sRet (eC (.bl false))) (retM .nx))
  (sRet (eBt (fn1 allD) (mCons (oVal (mLc [1] (mItems (oB 0)) (bName 1) (retM true) (eOr (eBin (inB false) (oB 1) (oVal (eC (.str "abcdefghijklmnopqrstuvwxyz")))) (eBin (inB false) (oB 1) (oVal (eC (.str "0123456789"))))))) (retM [])))))
def g_is_word : Sig := ⟨[.bo], none, runF 2 [.bo] m_is_word⟩
theorem ok_is_word {f : Addr} {fd : FuncData} {k : Nat} (hk : 0 ≤ k) (z : Facts K mg cl) (F : Fun K "is_word" "is_word" s_is_word f fd) :
    FnG P w K mg base (L2.CX P w) (k + 1) f fd ["value"] (spOf ⟨K, cl⟩ g_is_word) :=
  fn_ok (G' := [.bo] ++ [.fz]) (ls := [.fz]) F sc_is_word rfl rfl rfl rfl fun cdv A outer s H E vs hr ok =>
    (sb_cons (ss_if (st_of_w (sw_or (st_not (st_val (sv_isi ok (by rfl) z.isinstance (so_var (i := 0) rfl (by first | exact .inl rfl | exact .inr (.inl rfl) | exact .inr (.inr rfl))) (by rfl) z.str rfl (by decide) (by decide +kernel)))) (sw_or (st_cmp op_notIn_rng (prim_inRg (neg := true)) (so_of (sv_of (sf_callB prim_lenS (call_len) (by rfl) z.len PySem.boot_len (sa_cons (so_var (i := 0) rfl (by first | exact .inl rfl | exact .inr (.inl rfl) | exact .inr (.inr rfl))) sa_nil)))) (so_of (sv_rng (by rfl) z.range (sx_cons (k := none) sv_int (sx_cons (k := none) sv_int sx_nil)) (by decide +kernel))) rfl) (sw_or1 (st_cmp (op_notInAll ok.un) prim_in (so_of (sv_idx ok (so_var (i := 0) rfl (by first | exact .inl rfl | exact .inr (.inl rfl) | exact .inr (.inr rfl))) (so_of sv_int) (fun _ _ => rfl))) (so_of (sv_gstr (by rfl) z.LETTERS.choose_spec)) rfl))))) (sb_one (ss_ret rfl sv_bl)) sb_nil)
      (sb_one (ss_ret rfl (sv_of (sf_callB prim_all (cr_all (ok).calm) (by rfl) z.all (by decide +kernel) (sa_cons (so_of (sv_of (sf_lc ok (g := (gName 1)) (si_any ok (so_var (i := 0) rfl (by first | exact .inl rfl | exact .inr (.inl rfl) | exact .inr (.inr rfl)))) (own := [("sign", 1)]) (blkOk_by rfl) (fun s2 H2 c2 cl2 fp2 => (sg_name (ok.blk s2 H2 _ c2 cl2 fp2).nd (i := 1) rfl (by first | exact .inl rfl | exact .inr rfl) rfl (pinOk rfl))) (fun s2 H2 c2 cl2 fp2 => sts_nil) (fun s2 H2 c2 cl2 fp2 => (sv_or (ok.blk s2 H2 _ c2 cl2 fp2) (sv_of (sf_cmp (op_inAll (ok.blk s2 H2 _ c2 cl2 fp2).un) prim_in (so_var (i := 1) rfl (by first | exact .inl rfl | exact .inr (.inl rfl) | exact .inr (.inr rfl))) (so_of (sv_gstr (by rfl) z.LETTERS.choose_spec)) rfl)) (sv_one (sv_of (sf_cmp (op_inAll (ok.blk s2 H2 _ c2 cl2 fp2).un) prim_in (so_var (i := 1) rfl (by first | exact .inl rfl | exact .inr (.inl rfl) | exact .inr (.inr rfl))) (so_of (sv_gstr (by rfl) z.FIGURES.choose_spec)) rfl))))) (allIn (is := [1]) (by decide)) (by decide) (allFz rfl) (pinOks rfl)))) sa_nil))))))
abbrev s_wrong_post : Stmt := topS 13
theorem sc_wrong_post : FnScope ["posts", "k", "post"] ["posts"] (defScope s_wrong_post) := ⟨rfl, rfl, rfl, by decide +kernel, rfl, by decide +kernel, by decide +kernel⟩
def m_wrong_post : M Fl := (sSeq (sIf (mNot (tOf (callM g_is_list none (mCons (oB 0) (retM []))))) (sRet (eTup (xCons (eC (.int 0)) (retM [])))) (retM .nx))
  (sSeq (sFor (mEnumA (mCons (oB 0) (retM []))) (bTup [(bName 1), (bName 2)]) (sIf (mOr (mNot (tOf (callM g_is_word none (mCons (oB 2) (retM []))))) (tOf (eBin (inB false) (oB 2) (oVal (eSlice (oB 0) (retM none) (mPart (eV 1))))))) (sRet (eTup (xCons (eC (.int 0)) (xCons (eV 1) (retM []))))) (retM .nx)))
  (sRet (eC .non))))
def g_wrong_post : Sig := ⟨[.bo], none, runF 3 [.bo] m_wrong_post⟩
theorem ok_wrong_post {f : Addr} {fd : FuncData} {k : Nat} (hk : 1 ≤ k) (z : Facts K mg cl) (F : Fun K "wrong_post" "wrong_post" s_wrong_post f fd) (h_is_list : FnL P w K mg base ⟨K, cl⟩ "is_list" 1 g_is_list) (h_is_word : FnL P w K mg base ⟨K, cl⟩ "is_word" 1 g_is_word) :
    FnG P w K mg base (L2.CX P w) (k + 1) f fd ["posts"] (spOf ⟨K, cl⟩ g_wrong_post) :=
  fn_ok (G' := [.bo] ++ [.fz, .fz]) (ls := [.fz, .fz]) F sc_wrong_post rfl rfl rfl rfl fun cdv A outer s H E vs hr ok =>
    (sb_cons (ss_if (st_not (st_val (sv_call ok (h_is_list _ (by omega)) hr (by rfl) (sa_cons (so_var (i := 0) rfl (by first | exact .inl rfl | exact .inr (.inl rfl) | exact .inr (.inr rfl))) sa_nil) rfl rfl rfl rfl))) (sb_one (ss_ret rfl (sv_of (sf_tup (sx_cons (k := none) sv_int sx_nil))))) sb_nil)
      (sb_cons (ss_for (passes_of rfl) ok (si_enumA ok (by rfl) z.enumerate (sa_cons (so_var (i := 0) rfl (by first | exact .inl rfl | exact .inr (.inl rfl) | exact .inr (.inr rfl))) sa_nil)) (sg_tup ok.calm (sgs_cons (sg_name ok.nd (i := 1) rfl (by first | exact .inl rfl | exact .inr rfl) rfl (pinOk rfl)) (sgs_cons (sg_name ok.nd (i := 2) rfl (by first | exact .inl rfl | exact .inr rfl) rfl (pinOk rfl)) sgs_nil)) rfl) (sb_one (ss_if (st_of_w (sw_or (st_not (st_val (sv_call ok (h_is_word _ (by omega)) hr (by rfl) (sa_cons (so_var (i := 2) rfl (by first | exact .inl rfl | exact .inr (.inl rfl) | exact .inr (.inr rfl))) sa_nil) rfl rfl rfl rfl))) (sw_or1 (st_cmp (op_inAll ok.un) prim_in (so_var (i := 2) rfl (by first | exact .inl rfl | exact .inr (.inl rfl) | exact .inr (.inr rfl))) (so_of (sv_of (sf_slice ok (so_var (i := 0) rfl (by first | exact .inl rfl | exact .inr (.inl rfl) | exact .inr (.inr rfl))) sp_none (sp_some (sv_var (i := 1) rfl (by first | exact .inl rfl | exact .inr (.inl rfl) | exact .inr (.inr rfl)) rfl))))) rfl)))) (sb_one (ss_ret rfl (sv_of (sf_tup (sx_cons (k := none) sv_int (sx_cons (k := none) (sv_var (i := 1) rfl (by first | exact .inl rfl | exact .inr (.inl rfl) | exact .inr (.inr rfl)) rfl) sx_nil)))))) sb_nil)))
      (sb_one (ss_ret rfl sv_non))))
abbrev s_is_row : Stmt := topS 10
theorem sc_is_row : FnScope ["value", "many"] ["value", "many"] (defScope s_is_row) := ⟨rfl, rfl, rfl, by decide +kernel, rfl, by decide +kernel, by decide +kernel⟩
def m_is_row : M Fl := (sRet (eAnd (mIsi (isiD "tuple") (oB 0)) (eBin eqD (oVal (eBt (fn1 lenS) (mCons (oB 0) (retM [])))) (oB 1))))
def g_is_row : Sig := ⟨[.bo, .bo], none, runF 2 [.bo, .bo] m_is_row⟩
theorem ok_is_row {f : Addr} {fd : FuncData} {k : Nat} (hk : 0 ≤ k) (z : Facts K mg cl) (F : Fun K "is_row" "is_row" s_is_row f fd) :
    FnG P w K mg base (L2.CX P w) (k + 1) f fd ["value", "many"] (spOf ⟨K, cl⟩ g_is_row) :=
  fn_ok (G' := [.bo, .bo] ++ []) (ls := []) F sc_is_row rfl rfl rfl rfl fun cdv A outer s H E vs hr ok =>
    (sb_one (ss_ret rfl (sv_and ok (sv_isi ok (by rfl) z.isinstance (so_var (i := 0) rfl (by first | exact .inl rfl | exact .inr (.inl rfl) | exact .inr (.inr rfl))) (by rfl) z.tuple rfl (by decide) (by decide +kernel)) (sv_one (sv_of (sf_cmp (op_eqD ok.u64) prim_eq (so_of (sv_of (sf_callB prim_lenS (call_len) (by rfl) z.len PySem.boot_len (sa_cons (so_var (i := 0) rfl (by first | exact .inl rfl | exact .inr (.inl rfl) | exact .inr (.inr rfl))) sa_nil)))) (so_var (i := 1) rfl (by first | exact .inl rfl | exact .inr (.inl rfl) | exact .inr (.inr rfl))) (nomark _)))))))
abbrev s_is_among : Stmt := topS 11
theorem sc_is_among : FnScope ["value", "words"] ["value", "words"] (defScope s_is_among) := ⟨rfl, rfl, rfl, by decide +kernel, rfl, by decide +kernel, by decide +kernel⟩
def m_is_among : M Fl := (sRet (eAnd (callM g_is_word none (mCons (oB 0) (retM []))) (eBin (inB false) (oB 0) (oB 1))))
def g_is_among : Sig := ⟨[.bo, .bo], none, runF 2 [.bo, .bo] m_is_among⟩
theorem ok_is_among {f : Addr} {fd : FuncData} {k : Nat} (hk : 1 ≤ k) (z : Facts K mg cl) (F : Fun K "is_among" "is_among" s_is_among f fd) (h_is_word : FnL P w K mg base ⟨K, cl⟩ "is_word" 1 g_is_word) :
    FnG P w K mg base (L2.CX P w) (k + 1) f fd ["value", "words"] (spOf ⟨K, cl⟩ g_is_among) :=
  fn_ok (G' := [.bo, .bo] ++ []) (ls := []) F sc_is_among rfl rfl rfl rfl fun cdv A outer s H E vs hr ok =>
    (sb_one (ss_ret rfl (sv_and ok (sv_call ok (h_is_word _ (by omega)) hr (by rfl) (sa_cons (so_var (i := 0) rfl (by first | exact .inl rfl | exact .inr (.inl rfl) | exact .inr (.inr rfl))) sa_nil) rfl rfl rfl rfl) (sv_one (sv_of (sf_cmp (op_inAll ok.un) prim_in (so_var (i := 0) rfl (by first | exact .inl rfl | exact .inr (.inl rfl) | exact .inr (.inr rfl))) (so_var (i := 1) rfl (by first | exact .inl rfl | exact .inr (.inl rfl) | exact .inr (.inr rfl))) rfl))))))
abbrev s_wrong_tie : Stmt := topS 14
theorem sc_wrong_tie : FnScope ["posts", "ties", "met", "k", "tie", "j", "post"] ["posts", "ties"] (defScope s_wrong_tie) := ⟨rfl, rfl, rfl, by decide +kernel, rfl, by decide +kernel, by decide +kernel⟩
def m_wrong_tie : M Fl := (sSeq (sIf (mNot (tOf (callM g_is_list none (mCons (oB 1) (retM []))))) (sRet (eTup (xCons (eC (.int 1)) (retM [])))) (retM .nx))
  (sSeq (sAsg 2 (eC (.dct [] [])))
  (sSeq (sFor (mEnumA (mCons (oB 1) (retM []))) (bTup [(bName 3), (bName 4)]) (sSeq (sIf (mNot (tOf (callM g_is_row none (mCons (oB 4) (mCons (oVal (eC (.int 2))) (retM [])))))) (sRet (eTup (xCons (eC (.int 1)) (xCons (eV 3) (retM []))))) (retM .nx))
  (sSeq (sFor (mEnumA (mCons (oB 4) (retM []))) (bTup [(bName 5), (bName 6)]) (sIf (mNot (tOf (callM g_is_among none (mCons (oB 6) (mCons (oB 0) (retM [])))))) (sRet (eTup (xCons (eC (.int 1)) (xCons (eV 3) (xCons (eV 5) (retM [])))))) (retM .nx)))
  (sSeq (sIf (mOr (tOf (eBin eqD (oVal (eBin idxD (oB 4) (oVal (eC (.int 0))))) (oVal (eBin idxD (oB 4) (oVal (eC (.int 1))))))) (mOr (tOf (eBin (inB false) (oB 4) (oB 2))) (tOf (eBin (inB false) (oVal (eUn revD (oB 4))) (oB 2))))) (sRet (eTup (xCons (eC (.int 1)) (xCons (eV 3) (retM []))))) (retM .nx))
  (sDput 2 0 (eC (.bl true)) (eV 4))))))
  (sRet (eC .non)))))
def g_wrong_tie : Sig := ⟨[.bo, .bo], none, runF 7 [.bo, .bo] m_wrong_tie⟩
theorem ok_wrong_tie {f : Addr} {fd : FuncData} {k : Nat} (hk : 2 ≤ k) (z : Facts K mg cl) (F : Fun K "wrong_tie" "wrong_tie" s_wrong_tie f fd) (h_is_list : FnL P w K mg base ⟨K, cl⟩ "is_list" 1 g_is_list) (h_is_row : FnL P w K mg base ⟨K, cl⟩ "is_row" 1 g_is_row) (h_is_among : FnL P w K mg base ⟨K, cl⟩ "is_among" 2 g_is_among) :
    FnG P w K mg base (L2.CX P w) (k + 1) f fd ["posts", "ties"] (spOf ⟨K, cl⟩ g_wrong_tie) :=
  fn_ok (G' := [.bo, .bo] ++ [.ow 0, .fz, .fz, .fz, .fz]) (ls := [.ow 0, .fz, .fz, .fz, .fz]) F sc_wrong_tie rfl rfl rfl rfl fun cdv A outer s H E vs hr ok =>
    (sb_cons (ss_if (st_not (st_val (sv_call ok (h_is_list _ (by omega)) hr (by rfl) (sa_cons (so_var (i := 1) rfl (by first | exact .inl rfl | exact .inr (.inl rfl) | exact .inr (.inr rfl))) sa_nil) rfl rfl rfl rfl))) (sb_one (ss_ret rfl (sv_of (sf_tup (sx_cons (k := none) sv_int sx_nil))))) sb_nil)
      (sb_cons (ss_asgF ok.nd (i := 2) (k := 0) rfl (by first | exact .inl rfl | exact .inr rfl) rfl sf_dnewT (pinOk rfl))
      (sb_cons (ss_for (passes_of rfl) ok (si_enumA ok (by rfl) z.enumerate (sa_cons (so_var (i := 1) rfl (by first | exact .inl rfl | exact .inr (.inl rfl) | exact .inr (.inr rfl))) sa_nil)) (sg_tup ok.calm (sgs_cons (sg_name ok.nd (i := 3) rfl (by first | exact .inl rfl | exact .inr rfl) rfl (pinOk rfl)) (sgs_cons (sg_name ok.nd (i := 4) rfl (by first | exact .inl rfl | exact .inr rfl) rfl (pinOk rfl)) sgs_nil)) rfl) (sb_cons (ss_if (st_not (st_val (sv_call ok (h_is_row _ (by omega)) hr (by rfl) (sa_cons (so_var (i := 4) rfl (by first | exact .inl rfl | exact .inr (.inl rfl) | exact .inr (.inr rfl))) (sa_cons (so_of sv_int) sa_nil)) rfl rfl rfl rfl))) (sb_one (ss_ret rfl (sv_of (sf_tup (sx_cons (k := none) sv_int (sx_cons (k := none) (sv_var (i := 3) rfl (by first | exact .inl rfl | exact .inr (.inl rfl) | exact .inr (.inr rfl)) rfl) sx_nil)))))) sb_nil)
      (sb_cons (ss_for (passes_of rfl) ok (si_enumA ok (by rfl) z.enumerate (sa_cons (so_var (i := 4) rfl (by first | exact .inl rfl | exact .inr (.inl rfl) | exact .inr (.inr rfl))) sa_nil)) (sg_tup ok.calm (sgs_cons (sg_name ok.nd (i := 5) rfl (by first | exact .inl rfl | exact .inr rfl) rfl (pinOk rfl)) (sgs_cons (sg_name ok.nd (i := 6) rfl (by first | exact .inl rfl | exact .inr rfl) rfl (pinOk rfl)) sgs_nil)) rfl) (sb_one (ss_if (st_not (st_val (sv_call ok (h_is_among _ (by omega)) hr (by rfl) (sa_cons (so_var (i := 6) rfl (by first | exact .inl rfl | exact .inr (.inl rfl) | exact .inr (.inr rfl))) (sa_cons (so_var (i := 0) rfl (by first | exact .inl rfl | exact .inr (.inl rfl) | exact .inr (.inr rfl))) sa_nil)) rfl rfl rfl rfl))) (sb_one (ss_ret rfl (sv_of (sf_tup (sx_cons (k := none) sv_int (sx_cons (k := none) (sv_var (i := 3) rfl (by first | exact .inl rfl | exact .inr (.inl rfl) | exact .inr (.inr rfl)) rfl) (sx_cons (k := none) (sv_var (i := 5) rfl (by first | exact .inl rfl | exact .inr (.inl rfl) | exact .inr (.inr rfl)) rfl) sx_nil))))))) sb_nil)))
      (sb_cons (ss_if (st_of_w (sw_or (st_cmp (op_eqD ok.u64) prim_eq (so_of (sv_idx ok (so_var (i := 4) rfl (by first | exact .inl rfl | exact .inr (.inl rfl) | exact .inr (.inr rfl))) (so_of sv_int) (fun _ _ => rfl))) (so_of (sv_idx ok (so_var (i := 4) rfl (by first | exact .inl rfl | exact .inr (.inl rfl) | exact .inr (.inr rfl))) (so_of sv_int) (fun _ _ => rfl))) (nomark _)) (sw_or (st_cmp (op_inAll ok.un) prim_in (so_var (i := 4) rfl (by first | exact .inl rfl | exact .inr (.inl rfl) | exact .inr (.inr rfl))) (so_var (i := 2) rfl (by first | exact .inl rfl | exact .inr (.inl rfl) | exact .inr (.inr rfl))) rfl) (sw_or1 (st_cmp (op_inAll ok.un) prim_in (so_of (sv_of (sf_rev ok (so_var (i := 4) rfl (by first | exact .inl rfl | exact .inr (.inl rfl) | exact .inr (.inr rfl)))))) (so_var (i := 2) rfl (by first | exact .inl rfl | exact .inr (.inl rfl) | exact .inr (.inr rfl))) rfl))))) (sb_one (ss_ret rfl (sv_of (sf_tup (sx_cons (k := none) sv_int (sx_cons (k := none) (sv_var (i := 3) rfl (by first | exact .inl rfl | exact .inr (.inl rfl) | exact .inr (.inr rfl)) rfl) sx_nil)))))) sb_nil)
      (sb_one (ss_dput (i := 2) (n := 0) ok rfl (by first | exact .inl rfl | exact .inr (.inl rfl) | exact .inr (.inr rfl)) sv_bl (sv_var (i := 4) rfl (by first | exact .inl rfl | exact .inr (.inl rfl) | exact .inr (.inr rfl)) rfl) rfl rfl))))))
      (sb_one (ss_ret rfl sv_non)))))
abbrev s_Map___init__ : Stmt := clsS 15 0
theorem sc_Map___init__ : FnScope ["self", "posts", "ties", "path", "one", "other", "post", "number"] ["self", "posts", "ties"] (defScope s_Map___init__) := ⟨rfl, rfl, rfl, by decide +kernel, rfl, by decide +kernel, by decide +kernel⟩
def m_Map___init__ : M Fl := (sSeq (sAsg 3 (callM g_wrong_post none (mCons (oB 1) (retM []))))
  (sSeq (sIf (tOf (eUn isNB (oB 3))) (sAsg 3 (callM g_wrong_tie none (mCons (oB 1) (mCons (oB 2) (retM []))))) (retM .nx))
  (sSeq (sIf (tOf (eUn isNotNB (oB 3))) sBad (retM .nx))
  (sSeq (sFldPut 0 "Map" "own_posts" (mShal (eBt (fn1 tupleD) (mCons (oB 1) (retM [])))))
  (sSeq (sFldPut 0 "Map" "own_numbers" (mDc [7, 6] (mEnumA (mCons (oB 1) (retM []))) (bTup [(bName 7), (bName 6)]) (retM true) (eV 6) (mPlain (eV 7))))
  (sSeq (sFldPut 0 "Map" "own_near" (mDc [6] (mItems (oB 1)) (bName 6) (retM true) (eV 6) (eDisp (pCons (eV 6) (eC (.bl true)) (retM [])))))
  (sFor (mItems (oB 2)) (bTup [(bName 4), (bName 5)]) (sSeq (sPut2 0 "Map" "own_near" (eC (.bl true)) (rdV 4) (rdV 5))
  (sPut2 0 "Map" "own_near" (eC (.bl true)) (rdV 5) (rdV 4))))))))))
def g_Map___init__ : Sig := ⟨[.ow 2, .bo, .bo], none, runF 8 [.ow 2, .bo, .bo] m_Map___init__⟩
theorem ok_Map___init__ {f : Addr} {fd : FuncData} {k : Nat} (hk : 3 ≤ k) (z : Facts K mg cl) (F : Fun K "__init__" "Map.__init__" s_Map___init__ f fd) (h_wrong_post : FnL P w K mg base ⟨K, cl⟩ "wrong_post" 2 g_wrong_post) (h_wrong_tie : FnL P w K mg base ⟨K, cl⟩ "wrong_tie" 3 g_wrong_tie) :
    FnG P w K mg base (L2.CX P w) (k + 1) f fd ["self", "posts", "ties"] (spOf ⟨K, cl⟩ g_Map___init__) :=
  fn_ok (G' := [.ow 2, .bo, .bo] ++ [.fz, .fz, .fz, .fz, .fz]) (ls := [.fz, .fz, .fz, .fz, .fz]) F sc_Map___init__ rfl rfl rfl rfl fun cdv A outer s H E vs hr ok =>
    (sb_cons (ss_asg ok.nd (i := 3) rfl (by first | exact .inl rfl | exact .inr rfl) rfl (sv_call ok (h_wrong_post _ (by omega)) hr (by rfl) (sa_cons (so_var (i := 1) rfl (by first | exact .inl rfl | exact .inr (.inl rfl) | exact .inr (.inr rfl))) sa_nil) rfl rfl rfl rfl) (pinOk rfl))
      (sb_cons (ss_if (st_isN (so_var (i := 3) rfl (by first | exact .inl rfl | exact .inr (.inl rfl) | exact .inr (.inr rfl)))) (sb_one (ss_asg ok.nd (i := 3) rfl (by first | exact .inl rfl | exact .inr rfl) rfl (sv_call ok (h_wrong_tie _ (by omega)) hr (by rfl) (sa_cons (so_var (i := 1) rfl (by first | exact .inl rfl | exact .inr (.inl rfl) | exact .inr (.inr rfl))) (sa_cons (so_var (i := 2) rfl (by first | exact .inl rfl | exact .inr (.inl rfl) | exact .inr (.inr rfl))) sa_nil)) rfl rfl rfl rfl) (pinOk rfl))) sb_nil)
      (sb_cons (ss_if (st_notN (so_var (i := 3) rfl (by first | exact .inl rfl | exact .inr (.inl rfl) | exact .inr (.inr rfl)))) (sb_one ss_raise) sb_nil)
      (sb_cons (ss_fldset (i := 0) (n := 2) ok z.c_Map (by decide) rfl (by first | exact .inl rfl | exact .inr (.inl rfl) | exact .inr (.inr rfl)) (sf_lift (sf_callTy prim_tuple (call_tuple_of) (by rfl) z.tuple (by decide +kernel) (sa_cons (so_var (i := 1) rfl (by first | exact .inl rfl | exact .inr (.inl rfl) | exact .inr (.inr rfl))) sa_nil))) rfl)
      (sb_cons (ss_fldset (i := 0) (n := 2) ok z.c_Map (by decide) rfl (by first | exact .inl rfl | exact .inr (.inl rfl) | exact .inr (.inr rfl)) (sf_dc (n := 1) ok (g := (gTup K 2 (gCons (gName 7) (gCons (gName 6) gNil)))) (si_enumA ok (by rfl) z.enumerate (sa_cons (so_var (i := 1) rfl (by first | exact .inl rfl | exact .inr (.inl rfl) | exact .inr (.inr rfl))) sa_nil)) (own := [("number", 7), ("post", 6)]) (blkOk_by rfl) (fun s2 H2 c2 cl2 fp2 => (sg_tup (ok.blk s2 H2 _ c2 cl2 fp2).calm (sgs_cons (sg_name (ok.blk s2 H2 _ c2 cl2 fp2).nd (i := 7) rfl (by first | exact .inl rfl | exact .inr rfl) rfl (pinOk rfl)) (sgs_cons (sg_name (ok.blk s2 H2 _ c2 cl2 fp2).nd (i := 6) rfl (by first | exact .inl rfl | exact .inr rfl) rfl (pinOk rfl)) sgs_nil)) rfl)) (fun s2 H2 c2 cl2 fp2 => sts_nil) (fun s2 H2 c2 cl2 fp2 => (sv_var (i := 6) rfl (by first | exact .inl rfl | exact .inr (.inl rfl) | exact .inr (.inr rfl)) rfl)) (fun s2 H2 c2 cl2 fp2 => (sf_plain (sv_var (i := 7) rfl (by first | exact .inl rfl | exact .inr (.inl rfl) | exact .inr (.inr rfl)) rfl))) (allIn (is := [7, 6]) (by decide)) (by decide) (allFz rfl) (pinOks rfl)) rfl)
      (sb_cons (ss_fldset (i := 0) (n := 2) ok z.c_Map (by decide) rfl (by first | exact .inl rfl | exact .inr (.inl rfl) | exact .inr (.inr rfl)) (sf_dc (n := 1) ok (g := (gName 6)) (si_any ok (so_var (i := 1) rfl (by first | exact .inl rfl | exact .inr (.inl rfl) | exact .inr (.inr rfl)))) (own := [("post", 6)]) (blkOk_by rfl) (fun s2 H2 c2 cl2 fp2 => (sg_name (ok.blk s2 H2 _ c2 cl2 fp2).nd (i := 6) rfl (by first | exact .inl rfl | exact .inr rfl) rfl (pinOk rfl))) (fun s2 H2 c2 cl2 fp2 => sts_nil) (fun s2 H2 c2 cl2 fp2 => (sv_var (i := 6) rfl (by first | exact .inl rfl | exact .inr (.inl rfl) | exact .inr (.inr rfl)) rfl)) (fun s2 H2 c2 cl2 fp2 => (sf_disp (sps_cons (n := none) (sv_var (i := 6) rfl (by first | exact .inl rfl | exact .inr (.inl rfl) | exact .inr (.inr rfl)) rfl) sv_bl sps_nil))) (allIn (is := [6]) (by decide)) (by decide) (allFz rfl) (pinOks rfl)) rfl)
      (sb_one (ss_for (passes_of rfl) ok (si_any ok (so_var (i := 2) rfl (by first | exact .inl rfl | exact .inr (.inl rfl) | exact .inr (.inr rfl)))) (sg_tup ok.calm (sgs_cons (sg_name ok.nd (i := 4) rfl (by first | exact .inl rfl | exact .inr rfl) rfl (pinOk rfl)) (sgs_cons (sg_name ok.nd (i := 5) rfl (by first | exact .inl rfl | exact .inr rfl) rfl (pinOk rfl)) sgs_nil)) rfl) (sb_cons (ss_put2 (i := 0) ok z.c_Map (by decide) rfl (by first | exact .inl rfl | exact .inr (.inl rfl) | exact .inr (.inr rfl)) sv_bl (sr_var (i := 4) rfl (by first | exact .inl rfl | exact .inr (.inl rfl) | exact .inr (.inr rfl)) rfl) (sr_var (i := 5) rfl (by first | exact .inl rfl | exact .inr (.inl rfl) | exact .inr (.inr rfl)) rfl) (fun _ _ => rfl) rfl)
      (sb_one (ss_put2 (i := 0) ok z.c_Map (by decide) rfl (by first | exact .inl rfl | exact .inr (.inl rfl) | exact .inr (.inr rfl)) sv_bl (sr_var (i := 5) rfl (by first | exact .inl rfl | exact .inr (.inl rfl) | exact .inr (.inr rfl)) rfl) (sr_var (i := 4) rfl (by first | exact .inl rfl | exact .inr (.inl rfl) | exact .inr (.inr rfl)) rfl) (fun _ _ => rfl) rfl)))))))))))
abbrev s_law_made : Stmt := topS 35
theorem sc_law_made : FnScope ["_law_posts", "_law_ties"] ["_law_posts", "_law_ties"] (defScope s_law_made) := ⟨rfl, rfl, rfl, by decide +kernel, rfl, by decide +kernel, by decide +kernel⟩
def m_law_made : M Fl := (sRet (eDisp (pCons (eC (.str "posts")) (eV 0) (pCons (eC (.str "ties")) (eV 1) (pCons (eC (.str "map")) (makeM "Map" g_Map___init__ (mCons (oB 0) (mCons (oB 1) (retM [])))) (retM []))))))
def g_law_made : Sig := ⟨[.fz, .fz], none, runF 2 [.fz, .fz] m_law_made⟩
theorem ok_law_made {f : Addr} {fd : FuncData} {k : Nat} (hk : 5 ≤ k) (z : Facts K mg cl) (F : Fun K "_law_made" "_law_made" s_law_made f fd) (h_Map___init__ : MkL P w K mg base ⟨K, cl⟩ "Map" "Map" 4 g_Map___init__) :
    FnG P w K mg base (L2.CX P w) (k + 1) f fd ["_law_posts", "_law_ties"] (spOf ⟨K, cl⟩ g_law_made) :=
  fn_ok (G' := [.fz, .fz] ++ []) (ls := []) F sc_law_made rfl rfl rfl rfl fun cdv A outer s H E vs hr ok =>
    (sb_one (ss_ret rfl (sv_of (sf_disp (sps_cons (n := none) sv_str (sv_var (i := 0) rfl (by first | exact .inl rfl | exact .inr (.inl rfl) | exact .inr (.inr rfl)) rfl) (sps_cons (n := none) sv_str (sv_var (i := 1) rfl (by first | exact .inl rfl | exact .inr (.inl rfl) | exact .inr (.inr rfl)) rfl) (sps_cons (n := none) sv_str (sv_of (sf_make ok (h_Map___init__ (k - 1) (by omega)) (hr.mono (by omega)) (by rfl) rfl rfl (sa_cons (so_var (i := 0) rfl (by first | exact .inl rfl | exact .inr (.inl rfl) | exact .inr (.inr rfl))) (sa_cons (so_var (i := 1) rfl (by first | exact .inl rfl | exact .inr (.inl rfl) | exact .inr (.inr rfl))) sa_nil)) rfl rfl)) sps_nil)))))))
abbrev s_law_of : Stmt := topS 27
theorem sc_law_of : FnScope ["_law_source_here", "_law_some"] ["_law_source_here", "_law_some"] (defScope s_law_of) := ⟨rfl, rfl, rfl, by decide +kernel, rfl, by decide +kernel, by decide +kernel⟩
noncomputable def m_law_of : M Fl := (sRet (eBin idxD (oB 1) (oVal (callM g_law_pick (some (0, 0)) (mCons (oB 0) (mCons (oVal (eBt (fn1 lenS) (mCons (oB 1) (retM [])))) (retM [])))))))
noncomputable def g_law_of : Sig := ⟨[.ow 1, .bo], none, runF 2 [.ow 1, .bo] m_law_of⟩
theorem ok_law_of {f : Addr} {fd : FuncData} {k : Nat} (hk : 1 ≤ k) (z : Facts K mg cl) (F : Fun K "_law_of" "_law_of" s_law_of f fd) (h_law_pick : FnL P w K mg base ⟨K, cl⟩ "_law_pick" 1 g_law_pick) :
    FnG P w K mg base (L2.CX P w) (k + 1) f fd ["_law_source_here", "_law_some"] (spOf ⟨K, cl⟩ g_law_of) :=
  fn_ok (G' := [.ow 1, .bo] ++ []) (ls := []) F sc_law_of rfl rfl rfl rfl fun cdv A outer s H E vs hr ok =>
    (sb_one (ss_ret rfl (sv_idx ok (so_var (i := 1) rfl (by first | exact .inl rfl | exact .inr (.inl rfl) | exact .inr (.inr rfl))) (so_of (sv_call ok (h_law_pick _ (by omega)) hr (by rfl) (sa_cons (so_var (i := 0) rfl (by first | exact .inl rfl | exact .inr (.inl rfl) | exact .inr (.inr rfl))) (sa_cons (so_of (sv_of (sf_callB prim_lenS (call_len) (by rfl) z.len PySem.boot_len (sa_cons (so_var (i := 1) rfl (by first | exact .inl rfl | exact .inr (.inl rfl) | exact .inr (.inr rfl))) sa_nil)))) sa_nil)) rfl rfl rfl rfl)) (fun _ _ => rfl))))
abbrev s_law_good_ties : Stmt := topS 30
theorem sc_law_good_ties : FnScope ["_law_source_here", "_law_posts", "_law_post", "_law_ties", "_law_crowds", "_law_some", "_law_crowd", "_law_other"] ["_law_source_here", "_law_posts"] (defScope s_law_good_ties) := ⟨rfl, rfl, rfl, by decide +kernel, rfl, by decide +kernel, by decide +kernel⟩
noncomputable def m_law_good_ties : M Fl := (sSeq (sSetL [3, 4] (xCons (eLst (retM [])) (xCons (eLst (retM [])) (retM []))))
  (sSeq (sFor (mItems (oB 1)) (bName 2) (sSeq (sAsg 5 (eLst (retM [])))
  (sSeq (sIf (mAnd (tOf (eBin neD (oB 4) (oVal (eLst (retM []))))) (tOf (eBin (cmpD fun i j => decide (j < i)) (oVal (callM g_law_pick (some (0, 0)) (mCons (oB 0) (mCons (oVal (eC (.int 7))) (retM []))))) (oVal (eC (.int 0)))))) (sSeq (sAsg 6 (callM g_law_mixed (some (0, 0)) (mCons (oB 0) (mCons (oVal (callM g_law_of (some (0, 0)) (mCons (oB 0) (mCons (oB 4) (retM []))))) (retM [])))))
  (sAsg 5 (eSlice (oB 6) (retM none) (mPart (eBin addD (oVal (eC (.int 1))) (oVal (callM g_law_pick (some (0, 0)) (mCons (oB 0) (mCons (oVal (eBt (fn1 lenS) (mCons (oB 6) (retM [])))) (retM [])))))))))) (retM .nx))
  (sSeq (sAsg 3 (eBin addD (oB 3) (oVal (mLc [7] (mItems (oB 5)) (bName 7) (retM true) (eTup (xCons (eV 7) (xCons (eV 2) (retM []))))))))
  (sExpr (callMut 4 appD (xCons (eBin addD (oB 5) (oVal (eLst (xCons (eV 2) (retM []))))) (retM []))))))))
  (sRet (eV 3))))
noncomputable def g_law_good_ties : Sig := ⟨[.ow 1, .bo], none, runF 8 [.ow 1, .bo] m_law_good_ties⟩
theorem ok_law_good_ties {f : Addr} {fd : FuncData} {k : Nat} (hk : 2 ≤ k) (z : Facts K mg cl) (F : Fun K "_law_good_ties" "_law_good_ties" s_law_good_ties f fd) (h_law_pick : FnL P w K mg base ⟨K, cl⟩ "_law_pick" 1 g_law_pick) (h_law_mixed : FnL P w K mg base ⟨K, cl⟩ "_law_mixed" 2 g_law_mixed) (h_law_of : FnL P w K mg base ⟨K, cl⟩ "_law_of" 2 g_law_of) :
    FnG P w K mg base (L2.CX P w) (k + 1) f fd ["_law_source_here", "_law_posts"] (spOf ⟨K, cl⟩ g_law_good_ties) :=
  fn_ok (G' := [.ow 1, .bo] ++ [.fz, .fz, .ow 0, .fz, .fz, .fz]) (ls := [.fz, .fz, .ow 0, .fz, .fz, .fz]) F sc_law_good_ties rfl rfl rfl rfl fun cdv A outer s H E vs hr ok =>
    (sb_cons (ss_par2 ok (i := 3) (j := 4) rfl rfl (by decide) rfl rfl (sx_cons (k := none) (sv_of (sf_lst sx_nil)) (sx_cons (k := some 0) (sf_lst sx_nil) sx_nil)) (pinAll rfl) (allLt rfl) rfl)
      (sb_cons (ss_for (passes_of rfl) ok (si_any ok (so_var (i := 1) rfl (by first | exact .inl rfl | exact .inr (.inl rfl) | exact .inr (.inr rfl)))) (sg_name ok.nd (i := 2) rfl (by first | exact .inl rfl | exact .inr rfl) rfl (pinOk rfl)) (sb_cons (ss_asg ok.nd (i := 5) rfl (by first | exact .inl rfl | exact .inr rfl) rfl (sv_of (sf_lst sx_nil)) (pinOk rfl))
      (sb_cons (ss_if (st_of_w (sw_and (st_cmp (op_neD ok.u64) prim_ne (so_var (i := 4) rfl (by first | exact .inl rfl | exact .inr (.inl rfl) | exact .inr (.inr rfl))) (so_of (sv_of (sf_lst sx_nil))) (nomark _)) (sw_and1 (st_cmp (op_gt) prim_cmp (so_of (sv_call ok (h_law_pick _ (by omega)) hr (by rfl) (sa_cons (so_var (i := 0) rfl (by first | exact .inl rfl | exact .inr (.inl rfl) | exact .inr (.inr rfl))) (sa_cons (so_of sv_int) sa_nil)) rfl rfl rfl rfl)) (so_of sv_int) (nomark _))))) (sb_cons (ss_asg ok.nd (i := 6) rfl (by first | exact .inl rfl | exact .inr rfl) rfl (sv_call ok (h_law_mixed _ (by omega)) hr (by rfl) (sa_cons (so_var (i := 0) rfl (by first | exact .inl rfl | exact .inr (.inl rfl) | exact .inr (.inr rfl))) (sa_cons (so_of (sv_call ok (h_law_of _ (by omega)) hr (by rfl) (sa_cons (so_var (i := 0) rfl (by first | exact .inl rfl | exact .inr (.inl rfl) | exact .inr (.inr rfl))) (sa_cons (so_var (i := 4) rfl (by first | exact .inl rfl | exact .inr (.inl rfl) | exact .inr (.inr rfl))) sa_nil)) rfl rfl rfl rfl)) sa_nil)) rfl rfl rfl rfl) (pinOk rfl))
      (sb_one (ss_asg ok.nd (i := 5) rfl (by first | exact .inl rfl | exact .inr rfl) rfl (sv_of (sf_slice ok (so_var (i := 6) rfl (by first | exact .inl rfl | exact .inr (.inl rfl) | exact .inr (.inr rfl))) sp_none (sp_some (sv_of (sf_bin (op_addA) prim_add (so_of sv_int) (so_of (sv_call ok (h_law_pick _ (by omega)) hr (by rfl) (sa_cons (so_var (i := 0) rfl (by first | exact .inl rfl | exact .inr (.inl rfl) | exact .inr (.inr rfl))) (sa_cons (so_of (sv_of (sf_callB prim_lenS (call_len) (by rfl) z.len PySem.boot_len (sa_cons (so_var (i := 6) rfl (by first | exact .inl rfl | exact .inr (.inl rfl) | exact .inr (.inr rfl))) sa_nil)))) sa_nil)) rfl rfl rfl rfl))))))) (pinOk rfl)))) sb_nil)
      (sb_cons (ss_asg ok.nd (i := 3) rfl (by first | exact .inl rfl | exact .inr rfl) rfl (sv_of (sf_bin (op_addA) prim_add (so_var (i := 3) rfl (by first | exact .inl rfl | exact .inr (.inl rfl) | exact .inr (.inr rfl))) (so_of (sv_of (sf_lc ok (g := (gName 7)) (si_any ok (so_var (i := 5) rfl (by first | exact .inl rfl | exact .inr (.inl rfl) | exact .inr (.inr rfl)))) (own := [("_law_other", 7)]) (blkOk_by rfl) (fun s2 H2 c2 cl2 fp2 => (sg_name (ok.blk s2 H2 _ c2 cl2 fp2).nd (i := 7) rfl (by first | exact .inl rfl | exact .inr rfl) rfl (pinOk rfl))) (fun s2 H2 c2 cl2 fp2 => sts_nil) (fun s2 H2 c2 cl2 fp2 => (sv_of (sf_tup (sx_cons (k := none) (sv_var (i := 7) rfl (by first | exact .inl rfl | exact .inr (.inl rfl) | exact .inr (.inr rfl)) rfl) (sx_cons (k := none) (sv_var (i := 2) rfl (by first | exact .inl rfl | exact .inr (.inl rfl) | exact .inr (.inr rfl)) rfl) sx_nil))))) (allIn (is := [7]) (by decide)) (by decide) (allFz rfl) (pinOks rfl)))))) (pinOk rfl))
      (sb_one (ss_expr (sv_mut (i := 4) mut_append ok PySem.F.slot_list_append PySem.F.type_list_append (mt_append) rfl (by first | exact .inl rfl | exact .inr (.inl rfl) | exact .inr (.inr rfl)) rfl rfl (sx_cons (k := none) (sv_of (sf_bin (op_addA) prim_add (so_var (i := 5) rfl (by first | exact .inl rfl | exact .inr (.inl rfl) | exact .inr (.inr rfl))) (so_of (sv_of (sf_lst (sx_cons (k := none) (sv_var (i := 2) rfl (by first | exact .inl rfl | exact .inr (.inl rfl) | exact .inr (.inr rfl)) rfl) sx_nil)))))) sx_nil))))))))
      (sb_one (ss_ret rfl (sv_var (i := 3) rfl (by first | exact .inl rfl | exact .inr (.inl rfl) | exact .inr (.inr rfl)) rfl)))))
abbrev s_law_map : Stmt := topS 33
theorem sc_law_map : FnScope ["_law_source_here", "_law_most", "_law_posts", "_law_ties"] ["_law_source_here", "_law_most"] (defScope s_law_map) := ⟨rfl, rfl, rfl, by decide +kernel, rfl, by decide +kernel, by decide +kernel⟩
noncomputable def m_law_map : M Fl := (sSeq (sAsg 2 (callM g_law_names (some (0, 0)) (mCons (oB 0) (mCons (oVal (eBin addD (oVal (eC (.int 1))) (oVal (callM g_law_pick (some (0, 0)) (mCons (oB 0) (mCons (oB 1) (retM []))))))) (retM [])))))
  (sSeq (sAsg 3 (callM g_law_turned_ties (some (0, 0)) (mCons (oB 0) (mCons (oVal (callM g_law_good_ties (some (0, 0)) (mCons (oB 0) (mCons (oB 2) (retM []))))) (retM [])))))
  (sRet (callM g_law_made none (mCons (oVal (callM g_law_mixed (some (0, 0)) (mCons (oB 0) (mCons (oB 2) (retM []))))) (mCons (oB 3) (retM [])))))))
noncomputable def g_law_map : Sig := ⟨[.ow 1, .bo], none, runF 4 [.ow 1, .bo] m_law_map⟩
theorem ok_law_map {f : Addr} {fd : FuncData} {k : Nat} (hk : 6 ≤ k) (z : Facts K mg cl) (F : Fun K "_law_map" "_law_map" s_law_map f fd) (h_law_names : FnL P w K mg base ⟨K, cl⟩ "_law_names" 2 g_law_names) (h_law_pick : FnL P w K mg base ⟨K, cl⟩ "_law_pick" 1 g_law_pick) (h_law_turned_ties : FnL P w K mg base ⟨K, cl⟩ "_law_turned_ties" 3 g_law_turned_ties) (h_law_good_ties : FnL P w K mg base ⟨K, cl⟩ "_law_good_ties" 3 g_law_good_ties) (h_law_made : FnL P w K mg base ⟨K, cl⟩ "_law_made" 6 g_law_made) (h_law_mixed : FnL P w K mg base ⟨K, cl⟩ "_law_mixed" 2 g_law_mixed) :
    FnG P w K mg base (L2.CX P w) (k + 1) f fd ["_law_source_here", "_law_most"] (spOf ⟨K, cl⟩ g_law_map) :=
  fn_ok (G' := [.ow 1, .bo] ++ [.fz, .fz]) (ls := [.fz, .fz]) F sc_law_map rfl rfl rfl rfl fun cdv A outer s H E vs hr ok =>
    (sb_cons (ss_asg ok.nd (i := 2) rfl (by first | exact .inl rfl | exact .inr rfl) rfl (sv_call ok (h_law_names _ (by omega)) hr (by rfl) (sa_cons (so_var (i := 0) rfl (by first | exact .inl rfl | exact .inr (.inl rfl) | exact .inr (.inr rfl))) (sa_cons (so_of (sv_of (sf_bin (op_addA) prim_add (so_of sv_int) (so_of (sv_call ok (h_law_pick _ (by omega)) hr (by rfl) (sa_cons (so_var (i := 0) rfl (by first | exact .inl rfl | exact .inr (.inl rfl) | exact .inr (.inr rfl))) (sa_cons (so_var (i := 1) rfl (by first | exact .inl rfl | exact .inr (.inl rfl) | exact .inr (.inr rfl))) sa_nil)) rfl rfl rfl rfl))))) sa_nil)) rfl rfl rfl rfl) (pinOk rfl))
      (sb_cons (ss_asg ok.nd (i := 3) rfl (by first | exact .inl rfl | exact .inr rfl) rfl (sv_call ok (h_law_turned_ties _ (by omega)) hr (by rfl) (sa_cons (so_var (i := 0) rfl (by first | exact .inl rfl | exact .inr (.inl rfl) | exact .inr (.inr rfl))) (sa_cons (so_of (sv_call ok (h_law_good_ties _ (by omega)) hr (by rfl) (sa_cons (so_var (i := 0) rfl (by first | exact .inl rfl | exact .inr (.inl rfl) | exact .inr (.inr rfl))) (sa_cons (so_var (i := 2) rfl (by first | exact .inl rfl | exact .inr (.inl rfl) | exact .inr (.inr rfl))) sa_nil)) rfl rfl rfl rfl)) sa_nil)) rfl rfl rfl rfl) (pinOk rfl))
      (sb_one (ss_ret rfl (sv_call ok (h_law_made _ (by omega)) hr (by rfl) (sa_cons (so_of (sv_call ok (h_law_mixed _ (by omega)) hr (by rfl) (sa_cons (so_var (i := 0) rfl (by first | exact .inl rfl | exact .inr (.inl rfl) | exact .inr (.inr rfl))) (sa_cons (so_var (i := 2) rfl (by first | exact .inl rfl | exact .inr (.inl rfl) | exact .inr (.inr rfl))) sa_nil)) rfl rfl rfl rfl)) (sa_cons (so_var (i := 3) rfl (by first | exact .inl rfl | exact .inr (.inl rfl) | exact .inr (.inr rfl))) sa_nil)) rfl rfl rfl rfl)))))
abbrev s_law_any_ties : Stmt := topS 31
theorem sc_law_any_ties : FnScope ["_law_source_here", "_law_posts", "_law_share", "_law_ties", "_law_k", "_law_other"] ["_law_source_here", "_law_posts", "_law_share"] (defScope s_law_any_ties) := ⟨rfl, rfl, rfl, by decide +kernel, rfl, by decide +kernel, by decide +kernel⟩
noncomputable def m_law_any_ties : M Fl := (sSeq (sAsg 3 (eLst (retM [])))
  (sSeq (sFor (mRange1 (xCons (eBt (fn1 lenS) (mCons (oB 1) (retM []))) (retM []))) (bName 4) (sAsg 3 (eBin addD (oB 3) (oVal (mLc [5] (mItems (oVal (eSlice (oB 1) (retM none) (mPart (eV 4))))) (bName 5) (tOf (eBin eqD (oVal (callM g_law_pick (some (0, 0)) (mCons (oB 0) (mCons (oB 2) (retM []))))) (oVal (eC (.int 0))))) (eTup (xCons (eV 5) (xCons (eBin idxD (oB 1) (oB 4)) (retM [])))))))))
  (sRet (eV 3))))
noncomputable def g_law_any_ties : Sig := ⟨[.ow 1, .bo, .bo], none, runF 6 [.ow 1, .bo, .bo] m_law_any_ties⟩
theorem ok_law_any_ties {f : Addr} {fd : FuncData} {k : Nat} (hk : 1 ≤ k) (z : Facts K mg cl) (F : Fun K "_law_any_ties" "_law_any_ties" s_law_any_ties f fd) (h_law_pick : FnL P w K mg base ⟨K, cl⟩ "_law_pick" 1 g_law_pick) :
    FnG P w K mg base (L2.CX P w) (k + 1) f fd ["_law_source_here", "_law_posts", "_law_share"] (spOf ⟨K, cl⟩ g_law_any_ties) :=
  fn_ok (G' := [.ow 1, .bo, .bo] ++ [.fz, .fz, .fz]) (ls := [.fz, .fz, .fz]) F sc_law_any_ties rfl rfl rfl rfl fun cdv A outer s H E vs hr ok =>
    (sb_cons (ss_asg ok.nd (i := 3) rfl (by first | exact .inl rfl | exact .inr rfl) rfl (sv_of (sf_lst sx_nil)) (pinOk rfl))
      (sb_cons (ss_for (passes_of rfl) ok (si_range1 (by rfl) z.range (sx_cons (k := none) (sv_of (sf_callB prim_lenS (call_len) (by rfl) z.len PySem.boot_len (sa_cons (so_var (i := 1) rfl (by first | exact .inl rfl | exact .inr (.inl rfl) | exact .inr (.inr rfl))) sa_nil))) sx_nil)) (sg_name ok.nd (i := 4) rfl (by first | exact .inl rfl | exact .inr rfl) rfl (pinOk rfl)) (sb_one (ss_asg ok.nd (i := 3) rfl (by first | exact .inl rfl | exact .inr rfl) rfl (sv_of (sf_bin (op_addA) prim_add (so_var (i := 3) rfl (by first | exact .inl rfl | exact .inr (.inl rfl) | exact .inr (.inr rfl))) (so_of (sv_of (sf_lc ok (g := (gName 5)) (si_any ok (so_of (sv_of (sf_slice ok (so_var (i := 1) rfl (by first | exact .inl rfl | exact .inr (.inl rfl) | exact .inr (.inr rfl))) sp_none (sp_some (sv_var (i := 4) rfl (by first | exact .inl rfl | exact .inr (.inl rfl) | exact .inr (.inr rfl)) rfl)))))) (own := [("_law_other", 5)]) (blkOk_by rfl) (fun s2 H2 c2 cl2 fp2 => (sg_name (ok.blk s2 H2 _ c2 cl2 fp2).nd (i := 5) rfl (by first | exact .inl rfl | exact .inr rfl) rfl (pinOk rfl))) (fun s2 H2 c2 cl2 fp2 => (sts_one (st_cmp (op_eqD (ok.blk s2 H2 _ c2 cl2 fp2).u64) prim_eq (so_of (sv_call (ok.blk s2 H2 _ c2 cl2 fp2) (h_law_pick _ (by omega)) hr (by rfl) (sa_cons (so_var (i := 0) rfl (by first | exact .inl rfl | exact .inr (.inl rfl) | exact .inr (.inr rfl))) (sa_cons (so_var (i := 2) rfl (by first | exact .inl rfl | exact .inr (.inl rfl) | exact .inr (.inr rfl))) sa_nil)) rfl rfl rfl rfl)) (so_of sv_int) (nomark _)))) (fun s2 H2 c2 cl2 fp2 => (sv_of (sf_tup (sx_cons (k := none) (sv_var (i := 5) rfl (by first | exact .inl rfl | exact .inr (.inl rfl) | exact .inr (.inr rfl)) rfl) (sx_cons (k := none) (sv_idx (ok.blk s2 H2 _ c2 cl2 fp2) (so_var (i := 1) rfl (by first | exact .inl rfl | exact .inr (.inl rfl) | exact .inr (.inr rfl))) (so_var (i := 4) rfl (by first | exact .inl rfl | exact .inr (.inl rfl) | exact .inr (.inr rfl))) (fun _ _ => rfl)) sx_nil))))) (allIn (is := [5]) (by decide)) (by decide) (allFz rfl) (pinOks rfl)))))) (pinOk rfl))))
      (sb_one (ss_ret rfl (sv_var (i := 3) rfl (by first | exact .inl rfl | exact .inr (.inl rfl) | exact .inr (.inr rfl)) rfl)))))
abbrev s_law_any_map : Stmt := topS 34
theorem sc_law_any_map : FnScope ["_law_source_here", "_law_most", "_law_posts"] ["_law_source_here", "_law_most"] (defScope s_law_any_map) := ⟨rfl, rfl, rfl, by decide +kernel, rfl, by decide +kernel, by decide +kernel⟩
noncomputable def m_law_any_map : M Fl := (sSeq (sAsg 2 (callM g_law_names (some (0, 0)) (mCons (oB 0) (mCons (oVal (eBin addD (oVal (eC (.int 1))) (oVal (callM g_law_pick (some (0, 0)) (mCons (oB 0) (mCons (oB 1) (retM []))))))) (retM [])))))
  (sRet (callM g_law_made none (mCons (oB 2) (mCons (oVal (callM g_law_turned_ties (some (0, 0)) (mCons (oB 0) (mCons (oVal (callM g_law_any_ties (some (0, 0)) (mCons (oB 0) (mCons (oB 2) (mCons (oVal (eBin addD (oVal (eC (.int 2))) (oVal (callM g_law_pick (some (0, 0)) (mCons (oB 0) (mCons (oVal (eC (.int 2))) (retM []))))))) (retM [])))))) (retM []))))) (retM []))))))
noncomputable def g_law_any_map : Sig := ⟨[.ow 1, .bo], none, runF 3 [.ow 1, .bo] m_law_any_map⟩
theorem ok_law_any_map {f : Addr} {fd : FuncData} {k : Nat} (hk : 6 ≤ k) (z : Facts K mg cl) (F : Fun K "_law_any_map" "_law_any_map" s_law_any_map f fd) (h_law_names : FnL P w K mg base ⟨K, cl⟩ "_law_names" 2 g_law_names) (h_law_pick : FnL P w K mg base ⟨K, cl⟩ "_law_pick" 1 g_law_pick) (h_law_made : FnL P w K mg base ⟨K, cl⟩ "_law_made" 6 g_law_made) (h_law_turned_ties : FnL P w K mg base ⟨K, cl⟩ "_law_turned_ties" 3 g_law_turned_ties) (h_law_any_ties : FnL P w K mg base ⟨K, cl⟩ "_law_any_ties" 2 g_law_any_ties) :
    FnG P w K mg base (L2.CX P w) (k + 1) f fd ["_law_source_here", "_law_most"] (spOf ⟨K, cl⟩ g_law_any_map) :=
  fn_ok (G' := [.ow 1, .bo] ++ [.fz]) (ls := [.fz]) F sc_law_any_map rfl rfl rfl rfl fun cdv A outer s H E vs hr ok =>
    (sb_cons (ss_asg ok.nd (i := 2) rfl (by first | exact .inl rfl | exact .inr rfl) rfl (sv_call ok (h_law_names _ (by omega)) hr (by rfl) (sa_cons (so_var (i := 0) rfl (by first | exact .inl rfl | exact .inr (.inl rfl) | exact .inr (.inr rfl))) (sa_cons (so_of (sv_of (sf_bin (op_addA) prim_add (so_of sv_int) (so_of (sv_call ok (h_law_pick _ (by omega)) hr (by rfl) (sa_cons (so_var (i := 0) rfl (by first | exact .inl rfl | exact .inr (.inl rfl) | exact .inr (.inr rfl))) (sa_cons (so_var (i := 1) rfl (by first | exact .inl rfl | exact .inr (.inl rfl) | exact .inr (.inr rfl))) sa_nil)) rfl rfl rfl rfl))))) sa_nil)) rfl rfl rfl rfl) (pinOk rfl))
      (sb_one (ss_ret rfl (sv_call ok (h_law_made _ (by omega)) hr (by rfl) (sa_cons (so_var (i := 2) rfl (by first | exact .inl rfl | exact .inr (.inl rfl) | exact .inr (.inr rfl))) (sa_cons (so_of (sv_call ok (h_law_turned_ties _ (by omega)) hr (by rfl) (sa_cons (so_var (i := 0) rfl (by first | exact .inl rfl | exact .inr (.inl rfl) | exact .inr (.inr rfl))) (sa_cons (so_of (sv_call ok (h_law_any_ties _ (by omega)) hr (by rfl) (sa_cons (so_var (i := 0) rfl (by first | exact .inl rfl | exact .inr (.inl rfl) | exact .inr (.inr rfl))) (sa_cons (so_var (i := 2) rfl (by first | exact .inl rfl | exact .inr (.inl rfl) | exact .inr (.inr rfl))) (sa_cons (so_of (sv_of (sf_bin (op_addA) prim_add (so_of sv_int) (so_of (sv_call ok (h_law_pick _ (by omega)) hr (by rfl) (sa_cons (so_var (i := 0) rfl (by first | exact .inl rfl | exact .inr (.inl rfl) | exact .inr (.inr rfl))) (sa_cons (so_of sv_int) sa_nil)) rfl rfl rfl rfl))))) sa_nil))) rfl rfl rfl rfl)) sa_nil)) rfl rfl rfl rfl)) sa_nil)) rfl rfl rfl rfl))))
abbrev s_law_ring_map : Stmt := topS 36
theorem sc_law_ring_map : FnScope ["_law_source_here", "_law_k", "_law_more", "_law_posts", "_law_ties", "_law_post", "_law_n", "_law_other"] ["_law_source_here", "_law_k", "_law_more"] (defScope s_law_ring_map) := ⟨rfl, rfl, rfl, by decide +kernel, rfl, by decide +kernel, by decide +kernel⟩
noncomputable def m_law_ring_map : M Fl := (sSeq (sAsg 3 (callM g_law_names (some (0, 0)) (mCons (oB 0) (mCons (oVal (eBin addD (oB 1) (oB 2))) (retM [])))))
  (sSeq (sAsg 4 (mLc [6] (mRange1 (xCons (eV 1) (retM []))) (bName 6) (retM true) (eTup (xCons (eBin idxD (oB 3) (oB 6)) (xCons (eBin idxD (oB 3) (oVal (eBin (intD modI) (oVal (eBt (fn1 toIntD) (mCons (oVal (eBin addD (oB 6) (oVal (eC (.int 1))))) (retM [])))) (oB 1)))) (retM []))))))
  (sSeq (sFor (mItems (oVal (eSlice (oB 3) (mPart (eV 1)) (retM none)))) (bName 5) (sAsg 4 (eBin addD (oB 4) (oVal (mLc [7] (mItems (oVal (eSlice (oB 3) (retM none) (mPart (mIndex (oB 3) (mCons (oB 5) (retM []))))))) (bName 7) (tOf (eBin eqD (oVal (callM g_law_pick (some (0, 0)) (mCons (oB 0) (mCons (oVal (eC (.int 3))) (retM []))))) (oVal (eC (.int 0))))) (eTup (xCons (eV 7) (xCons (eV 5) (retM [])))))))))
  (sRet (callM g_law_made none (mCons (oVal (callM g_law_mixed (some (0, 0)) (mCons (oB 0) (mCons (oB 3) (retM []))))) (mCons (oVal (callM g_law_turned_ties (some (0, 0)) (mCons (oB 0) (mCons (oB 4) (retM []))))) (retM []))))))))
noncomputable def g_law_ring_map : Sig := ⟨[.ow 1, .fz, .bo], none, runF 8 [.ow 1, .fz, .bo] m_law_ring_map⟩
theorem ok_law_ring_map {f : Addr} {fd : FuncData} {k : Nat} (hk : 6 ≤ k) (z : Facts K mg cl) (F : Fun K "_law_ring_map" "_law_ring_map" s_law_ring_map f fd) (h_law_names : FnL P w K mg base ⟨K, cl⟩ "_law_names" 2 g_law_names) (h_law_pick : FnL P w K mg base ⟨K, cl⟩ "_law_pick" 1 g_law_pick) (h_law_made : FnL P w K mg base ⟨K, cl⟩ "_law_made" 6 g_law_made) (h_law_mixed : FnL P w K mg base ⟨K, cl⟩ "_law_mixed" 2 g_law_mixed) (h_law_turned_ties : FnL P w K mg base ⟨K, cl⟩ "_law_turned_ties" 3 g_law_turned_ties) :
    FnG P w K mg base (L2.CX P w) (k + 1) f fd ["_law_source_here", "_law_k", "_law_more"] (spOf ⟨K, cl⟩ g_law_ring_map) :=
  fn_ok (G' := [.ow 1, .fz, .bo] ++ [.fz, .fz, .fz, .fz, .fz]) (ls := [.fz, .fz, .fz, .fz, .fz]) F sc_law_ring_map rfl rfl rfl rfl fun cdv A outer s H E vs hr ok =>
    (sb_cons (ss_asg ok.nd (i := 3) rfl (by first | exact .inl rfl | exact .inr rfl) rfl (sv_call ok (h_law_names _ (by omega)) hr (by rfl) (sa_cons (so_var (i := 0) rfl (by first | exact .inl rfl | exact .inr (.inl rfl) | exact .inr (.inr rfl))) (sa_cons (so_of (sv_of (sf_bin (op_addA) prim_add (so_var (i := 1) rfl (by first | exact .inl rfl | exact .inr (.inl rfl) | exact .inr (.inr rfl))) (so_var (i := 2) rfl (by first | exact .inl rfl | exact .inr (.inl rfl) | exact .inr (.inr rfl)))))) sa_nil)) rfl rfl rfl rfl) (pinOk rfl))
      (sb_cons (ss_weak (G' := [.ow 1, .fz, .bo, .fz, .fz, .fz, .fz, .fz]) (ss_asgLc ok (i := 4) rfl rfl rfl (pinOk rfl) (g := (gName 6)) (si_range1 (by rfl) z.range (sx_cons (k := none) (sv_var (i := 1) rfl (by first | exact .inl rfl | exact .inr (.inl rfl) | exact .inr (.inr rfl)) rfl) sx_nil)) (own := [("_law_n", 6)]) (blkOk_by rfl) (fun s2 H2 c2 cl2 fp2 => (sg_name (ok.blk s2 H2 _ c2 cl2 fp2).nd (i := 6) rfl (by first | exact .inl rfl | exact .inr rfl) rfl (pinOk rfl))) (fun s2 H2 c2 cl2 fp2 => sts_nil) (fun s2 H2 c2 cl2 fp2 => (sv_of (sf_tup (sx_cons (k := none) (sv_idx (ok.blk s2 H2 _ c2 cl2 fp2) (so_var (i := 3) rfl (by first | exact .inl rfl | exact .inr (.inl rfl) | exact .inr (.inr rfl))) (so_var (i := 6) rfl (by first | exact .inl rfl | exact .inr (.inl rfl) | exact .inr (.inr rfl))) (fun _ _ => rfl)) (sx_cons (k := none) (sv_idx (ok.blk s2 H2 _ c2 cl2 fp2) (so_var (i := 3) rfl (by first | exact .inl rfl | exact .inr (.inl rfl) | exact .inr (.inr rfl))) (so_of (sv_of (sf_bin (op_mod) prim_mod (so_of (sv_of (sf_callTy prim_toInt (call_int1) (by rfl) z.int (by decide +kernel) (sa_cons (so_of (sv_of (sf_bin (op_addA) prim_add (so_var (i := 6) rfl (by first | exact .inl rfl | exact .inr (.inl rfl) | exact .inr (.inr rfl))) (so_of sv_int)))) sa_nil)))) (so_var (i := 1) rfl (by first | exact .inl rfl | exact .inr (.inl rfl) | exact .inr (.inr rfl)))))) (fun _ _ => rfl)) sx_nil))))) (allIn (is := [6]) (by decide)) (by decide) (allFz rfl) (pinOks rfl)))
      (sb_cons (ss_for (passes_of rfl) ok (si_any ok (so_of (sv_of (sf_slice ok (so_var (i := 3) rfl (by first | exact .inl rfl | exact .inr (.inl rfl) | exact .inr (.inr rfl))) (sp_some (sv_var (i := 1) rfl (by first | exact .inl rfl | exact .inr (.inl rfl) | exact .inr (.inr rfl)) rfl)) sp_none)))) (sg_name ok.nd (i := 5) rfl (by first | exact .inl rfl | exact .inr rfl) rfl (pinOk rfl)) (sb_one (ss_asg ok.nd (i := 4) rfl (by first | exact .inl rfl | exact .inr rfl) rfl (sv_of (sf_bin (op_addA) prim_add (so_var (i := 4) rfl (by first | exact .inl rfl | exact .inr (.inl rfl) | exact .inr (.inr rfl))) (so_of (sv_of (sf_lc ok (g := (gName 7)) (si_any ok (so_of (sv_of (sf_slice ok (so_var (i := 3) rfl (by first | exact .inl rfl | exact .inr (.inl rfl) | exact .inr (.inr rfl))) sp_none (sp_some (sv_index ok (so_var (i := 3) rfl (by first | exact .inl rfl | exact .inr (.inl rfl) | exact .inr (.inr rfl))) (sa_cons (so_var (i := 5) rfl (by first | exact .inl rfl | exact .inr (.inl rfl) | exact .inr (.inr rfl))) sa_nil))))))) (own := [("_law_other", 7)]) (blkOk_by rfl) (fun s2 H2 c2 cl2 fp2 => (sg_name (ok.blk s2 H2 _ c2 cl2 fp2).nd (i := 7) rfl (by first | exact .inl rfl | exact .inr rfl) rfl (pinOk rfl))) (fun s2 H2 c2 cl2 fp2 => (sts_one (st_cmp (op_eqD (ok.blk s2 H2 _ c2 cl2 fp2).u64) prim_eq (so_of (sv_call (ok.blk s2 H2 _ c2 cl2 fp2) (h_law_pick _ (by omega)) hr (by rfl) (sa_cons (so_var (i := 0) rfl (by first | exact .inl rfl | exact .inr (.inl rfl) | exact .inr (.inr rfl))) (sa_cons (so_of sv_int) sa_nil)) rfl rfl rfl rfl)) (so_of sv_int) (nomark _)))) (fun s2 H2 c2 cl2 fp2 => (sv_of (sf_tup (sx_cons (k := none) (sv_var (i := 7) rfl (by first | exact .inl rfl | exact .inr (.inl rfl) | exact .inr (.inr rfl)) rfl) (sx_cons (k := none) (sv_var (i := 5) rfl (by first | exact .inl rfl | exact .inr (.inl rfl) | exact .inr (.inr rfl)) rfl) sx_nil))))) (allIn (is := [7]) (by decide)) (by decide) (allFz rfl) (pinOks rfl)))))) (pinOk rfl))))
      (sb_one (ss_ret rfl (sv_call ok (h_law_made _ (by omega)) hr (by rfl) (sa_cons (so_of (sv_call ok (h_law_mixed _ (by omega)) hr (by rfl) (sa_cons (so_var (i := 0) rfl (by first | exact .inl rfl | exact .inr (.inl rfl) | exact .inr (.inr rfl))) (sa_cons (so_var (i := 3) rfl (by first | exact .inl rfl | exact .inr (.inl rfl) | exact .inr (.inr rfl))) sa_nil)) rfl rfl rfl rfl)) (sa_cons (so_of (sv_call ok (h_law_turned_ties _ (by omega)) hr (by rfl) (sa_cons (so_var (i := 0) rfl (by first | exact .inl rfl | exact .inr (.inl rfl) | exact .inr (.inr rfl))) (sa_cons (so_var (i := 4) rfl (by first | exact .inl rfl | exact .inr (.inl rfl) | exact .inr (.inr rfl))) sa_nil)) rfl rfl rfl rfl)) sa_nil)) rfl rfl rfl rfl))))))
abbrev s_law_great_map : Stmt := topS 37
theorem sc_law_great_map : FnScope ["_law_source_here", "_law_posts", "_law_ties"] ["_law_source_here"] (defScope s_law_great_map) := ⟨rfl, rfl, rfl, by decide +kernel, rfl, by decide +kernel, by decide +kernel⟩
noncomputable def m_law_great_map : M Fl := (sSeq (sAsg 1 (callM g_law_names (some (0, 0)) (mCons (oB 0) (mCons (oVal (eBin addD (oVal (eC (.int 12))) (oVal (callM g_law_pick (some (0, 0)) (mCons (oB 0) (mCons (oVal (eC (.int 17))) (retM []))))))) (retM [])))))
  (sSeq (sAsg 2 (eIf (tOf (eBin eqD (oVal (callM g_law_pick (some (0, 0)) (mCons (oB 0) (mCons (oVal (eC (.int 2))) (retM []))))) (oVal (eC (.int 0))))) (callM g_law_good_ties (some (0, 0)) (mCons (oB 0) (mCons (oB 1) (retM [])))) (callM g_law_any_ties (some (0, 0)) (mCons (oB 0) (mCons (oB 1) (mCons (oVal (eC (.int 8))) (retM [])))))))
  (sRet (callM g_law_made none (mCons (oVal (callM g_law_mixed (some (0, 0)) (mCons (oB 0) (mCons (oB 1) (retM []))))) (mCons (oVal (callM g_law_turned_ties (some (0, 0)) (mCons (oB 0) (mCons (oB 2) (retM []))))) (retM [])))))))
noncomputable def g_law_great_map : Sig := ⟨[.ow 1], none, runF 3 [.ow 1] m_law_great_map⟩
theorem ok_law_great_map {f : Addr} {fd : FuncData} {k : Nat} (hk : 6 ≤ k) (z : Facts K mg cl) (F : Fun K "_law_great_map" "_law_great_map" s_law_great_map f fd) (h_law_names : FnL P w K mg base ⟨K, cl⟩ "_law_names" 2 g_law_names) (h_law_pick : FnL P w K mg base ⟨K, cl⟩ "_law_pick" 1 g_law_pick) (h_law_good_ties : FnL P w K mg base ⟨K, cl⟩ "_law_good_ties" 3 g_law_good_ties) (h_law_any_ties : FnL P w K mg base ⟨K, cl⟩ "_law_any_ties" 2 g_law_any_ties) (h_law_made : FnL P w K mg base ⟨K, cl⟩ "_law_made" 6 g_law_made) (h_law_mixed : FnL P w K mg base ⟨K, cl⟩ "_law_mixed" 2 g_law_mixed) (h_law_turned_ties : FnL P w K mg base ⟨K, cl⟩ "_law_turned_ties" 3 g_law_turned_ties) :
    FnG P w K mg base (L2.CX P w) (k + 1) f fd ["_law_source_here"] (spOf ⟨K, cl⟩ g_law_great_map) :=
  fn_ok (G' := [.ow 1] ++ [.fz, .fz]) (ls := [.fz, .fz]) F sc_law_great_map rfl rfl rfl rfl fun cdv A outer s H E vs hr ok =>
    (sb_cons (ss_asg ok.nd (i := 1) rfl (by first | exact .inl rfl | exact .inr rfl) rfl (sv_call ok (h_law_names _ (by omega)) hr (by rfl) (sa_cons (so_var (i := 0) rfl (by first | exact .inl rfl | exact .inr (.inl rfl) | exact .inr (.inr rfl))) (sa_cons (so_of (sv_of (sf_bin (op_addA) prim_add (so_of sv_int) (so_of (sv_call ok (h_law_pick _ (by omega)) hr (by rfl) (sa_cons (so_var (i := 0) rfl (by first | exact .inl rfl | exact .inr (.inl rfl) | exact .inr (.inr rfl))) (sa_cons (so_of sv_int) sa_nil)) rfl rfl rfl rfl))))) sa_nil)) rfl rfl rfl rfl) (pinOk rfl))
      (sb_cons (ss_asg ok.nd (i := 2) rfl (by first | exact .inl rfl | exact .inr rfl) rfl (sv_if (st_cmp (op_eqD ok.u64) prim_eq (so_of (sv_call ok (h_law_pick _ (by omega)) hr (by rfl) (sa_cons (so_var (i := 0) rfl (by first | exact .inl rfl | exact .inr (.inl rfl) | exact .inr (.inr rfl))) (sa_cons (so_of sv_int) sa_nil)) rfl rfl rfl rfl)) (so_of sv_int) (nomark _)) (sv_call ok (h_law_good_ties _ (by omega)) hr (by rfl) (sa_cons (so_var (i := 0) rfl (by first | exact .inl rfl | exact .inr (.inl rfl) | exact .inr (.inr rfl))) (sa_cons (so_var (i := 1) rfl (by first | exact .inl rfl | exact .inr (.inl rfl) | exact .inr (.inr rfl))) sa_nil)) rfl rfl rfl rfl) (sv_call ok (h_law_any_ties _ (by omega)) hr (by rfl) (sa_cons (so_var (i := 0) rfl (by first | exact .inl rfl | exact .inr (.inl rfl) | exact .inr (.inr rfl))) (sa_cons (so_var (i := 1) rfl (by first | exact .inl rfl | exact .inr (.inl rfl) | exact .inr (.inr rfl))) (sa_cons (so_of sv_int) sa_nil))) rfl rfl rfl rfl)) (pinOk rfl))
      (sb_one (ss_ret rfl (sv_call ok (h_law_made _ (by omega)) hr (by rfl) (sa_cons (so_of (sv_call ok (h_law_mixed _ (by omega)) hr (by rfl) (sa_cons (so_var (i := 0) rfl (by first | exact .inl rfl | exact .inr (.inl rfl) | exact .inr (.inr rfl))) (sa_cons (so_var (i := 1) rfl (by first | exact .inl rfl | exact .inr (.inl rfl) | exact .inr (.inr rfl))) sa_nil)) rfl rfl rfl rfl)) (sa_cons (so_of (sv_call ok (h_law_turned_ties _ (by omega)) hr (by rfl) (sa_cons (so_var (i := 0) rfl (by first | exact .inl rfl | exact .inr (.inl rfl) | exact .inr (.inr rfl))) (sa_cons (so_var (i := 2) rfl (by first | exact .inl rfl | exact .inr (.inl rfl) | exact .inr (.inr rfl))) sa_nil)) rfl rfl rfl rfl)) sa_nil)) rfl rfl rfl rfl)))))
abbrev s_law_drawn_map : Stmt := topS 38
theorem sc_law_drawn_map : FnScope ["_law_source_here", "_law_way", "_law_words", "_law_posts"] ["_law_source_here"] (defScope s_law_drawn_map) := ⟨rfl, rfl, rfl, by decide +kernel, rfl, by decide +kernel, by decide +kernel⟩
noncomputable def m_law_drawn_map : M Fl := (sSeq (sAsg 1 (callM g_law_pick (some (0, 0)) (mCons (oB 0) (mCons (oVal (eC (.int 8))) (retM [])))))
  (sSeq (sIf (tOf (eBin (cmpD fun i j => decide (i < j)) (oB 1) (oVal (eC (.int 3))))) (sRet (callM g_law_map (some (0, 0)) (mCons (oB 0) (mCons (oVal (eC (.int 9))) (retM []))))) (retM .nx))
  (sSeq (sIf (tOf (eBin (cmpD fun i j => decide (i < j)) (oB 1) (oVal (eC (.int 5))))) (sRet (callM g_law_any_map (some (0, 0)) (mCons (oB 0) (mCons (oVal (eC (.int 8))) (retM []))))) (retM .nx))
  (sSeq (sIf (tOf (eBin eqD (oB 1) (oVal (eC (.int 5))))) (sRet (callM g_law_ring_map (some (0, 0)) (mCons (oB 0) (mCons (oVal (eBin addD (oVal (eC (.int 4))) (oVal (callM g_law_pick (some (0, 0)) (mCons (oB 0) (mCons (oVal (eC (.int 4))) (retM []))))))) (mCons (oVal (callM g_law_pick (some (0, 0)) (mCons (oB 0) (mCons (oVal (eC (.int 3))) (retM []))))) (retM [])))))) (retM .nx))
  (sSeq (sIf (tOf (eBin eqD (oB 1) (oVal (eC (.int 6))))) (sSeq (sAsg 2 (eLst (xCons (eC (.str "map")) (xCons (eC (.str "a")) (xCons (eC (.str "script")) (xCons (eC (.str "abcdefghijkl")) (xCons (eC (.str "none")) (xCons (eC (.str "nones")) (xCons (eC (.str "alpha1")) (xCons (eC (.str "alpha2")) (retM [])))))))))))
  (sSeq (sAsg 3 (eSlice (oVal (callM g_law_mixed (some (0, 0)) (mCons (oB 0) (mCons (oB 2) (retM []))))) (retM none) (mPart (callM g_law_pick (some (0, 0)) (mCons (oB 0) (mCons (oVal (eC (.int 9))) (retM [])))))))
  (sRet (callM g_law_made none (mCons (oB 3) (mCons (oVal (callM g_law_turned_ties (some (0, 0)) (mCons (oB 0) (mCons (oVal (callM g_law_any_ties (some (0, 0)) (mCons (oB 0) (mCons (oB 3) (mCons (oVal (eC (.int 2))) (retM [])))))) (retM []))))) (retM []))))))) (retM .nx))
  (sRet (eIf (tOf (eBin eqD (oVal (callM g_law_pick (some (0, 0)) (mCons (oB 0) (mCons (oVal (eC (.int 2))) (retM []))))) (oVal (eC (.int 0))))) (callM g_law_made none (mCons (oVal (eLst (retM []))) (mCons (oVal (eLst (retM []))) (retM [])))) (callM g_law_great_map (some (0, 0)) (mCons (oB 0) (retM []))))))))))
noncomputable def g_law_drawn_map : Sig := ⟨[.ow 1], none, runF 4 [.ow 1] m_law_drawn_map⟩
theorem ok_law_drawn_map {f : Addr} {fd : FuncData} {k : Nat} (hk : 7 ≤ k) (z : Facts K mg cl) (F : Fun K "_law_drawn_map" "_law_drawn_map" s_law_drawn_map f fd) (h_law_pick : FnL P w K mg base ⟨K, cl⟩ "_law_pick" 1 g_law_pick) (h_law_map : FnL P w K mg base ⟨K, cl⟩ "_law_map" 7 g_law_map) (h_law_any_map : FnL P w K mg base ⟨K, cl⟩ "_law_any_map" 7 g_law_any_map) (h_law_ring_map : FnL P w K mg base ⟨K, cl⟩ "_law_ring_map" 7 g_law_ring_map) (h_law_mixed : FnL P w K mg base ⟨K, cl⟩ "_law_mixed" 2 g_law_mixed) (h_law_made : FnL P w K mg base ⟨K, cl⟩ "_law_made" 6 g_law_made) (h_law_turned_ties : FnL P w K mg base ⟨K, cl⟩ "_law_turned_ties" 3 g_law_turned_ties) (h_law_any_ties : FnL P w K mg base ⟨K, cl⟩ "_law_any_ties" 2 g_law_any_ties) (h_law_great_map : FnL P w K mg base ⟨K, cl⟩ "_law_great_map" 7 g_law_great_map) :
    FnG P w K mg base (L2.CX P w) (k + 1) f fd ["_law_source_here"] (spOf ⟨K, cl⟩ g_law_drawn_map) :=
  fn_ok (G' := [.ow 1] ++ [.fz, .fz, .fz]) (ls := [.fz, .fz, .fz]) F sc_law_drawn_map rfl rfl rfl rfl fun cdv A outer s H E vs hr ok =>
    (sb_cons (ss_asg ok.nd (i := 1) rfl (by first | exact .inl rfl | exact .inr rfl) rfl (sv_call ok (h_law_pick _ (by omega)) hr (by rfl) (sa_cons (so_var (i := 0) rfl (by first | exact .inl rfl | exact .inr (.inl rfl) | exact .inr (.inr rfl))) (sa_cons (so_of sv_int) sa_nil)) rfl rfl rfl rfl) (pinOk rfl))
      (sb_cons (ss_if (st_cmp (op_lt) prim_cmp (so_var (i := 1) rfl (by first | exact .inl rfl | exact .inr (.inl rfl) | exact .inr (.inr rfl))) (so_of sv_int) (nomark _)) (sb_one (ss_ret rfl (sv_call ok (h_law_map _ (by omega)) hr (by rfl) (sa_cons (so_var (i := 0) rfl (by first | exact .inl rfl | exact .inr (.inl rfl) | exact .inr (.inr rfl))) (sa_cons (so_of sv_int) sa_nil)) rfl rfl rfl rfl))) sb_nil)
      (sb_cons (ss_if (st_cmp (op_lt) prim_cmp (so_var (i := 1) rfl (by first | exact .inl rfl | exact .inr (.inl rfl) | exact .inr (.inr rfl))) (so_of sv_int) (nomark _)) (sb_one (ss_ret rfl (sv_call ok (h_law_any_map _ (by omega)) hr (by rfl) (sa_cons (so_var (i := 0) rfl (by first | exact .inl rfl | exact .inr (.inl rfl) | exact .inr (.inr rfl))) (sa_cons (so_of sv_int) sa_nil)) rfl rfl rfl rfl))) sb_nil)
      (sb_cons (ss_if (st_cmp (op_eqD ok.u64) prim_eq (so_var (i := 1) rfl (by first | exact .inl rfl | exact .inr (.inl rfl) | exact .inr (.inr rfl))) (so_of sv_int) (nomark _)) (sb_one (ss_ret rfl (sv_call ok (h_law_ring_map _ (by omega)) hr (by rfl) (sa_cons (so_var (i := 0) rfl (by first | exact .inl rfl | exact .inr (.inl rfl) | exact .inr (.inr rfl))) (sa_cons (so_of (sv_of (sf_bin (op_addA) prim_add (so_of sv_int) (so_of (sv_call ok (h_law_pick _ (by omega)) hr (by rfl) (sa_cons (so_var (i := 0) rfl (by first | exact .inl rfl | exact .inr (.inl rfl) | exact .inr (.inr rfl))) (sa_cons (so_of sv_int) sa_nil)) rfl rfl rfl rfl))))) (sa_cons (so_of (sv_call ok (h_law_pick _ (by omega)) hr (by rfl) (sa_cons (so_var (i := 0) rfl (by first | exact .inl rfl | exact .inr (.inl rfl) | exact .inr (.inr rfl))) (sa_cons (so_of sv_int) sa_nil)) rfl rfl rfl rfl)) sa_nil))) rfl rfl rfl rfl))) sb_nil)
      (sb_cons (ss_if (st_cmp (op_eqD ok.u64) prim_eq (so_var (i := 1) rfl (by first | exact .inl rfl | exact .inr (.inl rfl) | exact .inr (.inr rfl))) (so_of sv_int) (nomark _)) (sb_cons (ss_asg ok.nd (i := 2) rfl (by first | exact .inl rfl | exact .inr rfl) rfl (sv_of (sf_lst (sx_cons (k := none) sv_str (sx_cons (k := none) sv_str (sx_cons (k := none) sv_str (sx_cons (k := none) sv_str (sx_cons (k := none) sv_str (sx_cons (k := none) sv_str (sx_cons (k := none) sv_str (sx_cons (k := none) sv_str sx_nil)))))))))) (pinOk rfl))
      (sb_cons (ss_asg ok.nd (i := 3) rfl (by first | exact .inl rfl | exact .inr rfl) rfl (sv_of (sf_slice ok (so_of (sv_call ok (h_law_mixed _ (by omega)) hr (by rfl) (sa_cons (so_var (i := 0) rfl (by first | exact .inl rfl | exact .inr (.inl rfl) | exact .inr (.inr rfl))) (sa_cons (so_var (i := 2) rfl (by first | exact .inl rfl | exact .inr (.inl rfl) | exact .inr (.inr rfl))) sa_nil)) rfl rfl rfl rfl)) sp_none (sp_some (sv_call ok (h_law_pick _ (by omega)) hr (by rfl) (sa_cons (so_var (i := 0) rfl (by first | exact .inl rfl | exact .inr (.inl rfl) | exact .inr (.inr rfl))) (sa_cons (so_of sv_int) sa_nil)) rfl rfl rfl rfl)))) (pinOk rfl))
      (sb_one (ss_ret rfl (sv_call ok (h_law_made _ (by omega)) hr (by rfl) (sa_cons (so_var (i := 3) rfl (by first | exact .inl rfl | exact .inr (.inl rfl) | exact .inr (.inr rfl))) (sa_cons (so_of (sv_call ok (h_law_turned_ties _ (by omega)) hr (by rfl) (sa_cons (so_var (i := 0) rfl (by first | exact .inl rfl | exact .inr (.inl rfl) | exact .inr (.inr rfl))) (sa_cons (so_of (sv_call ok (h_law_any_ties _ (by omega)) hr (by rfl) (sa_cons (so_var (i := 0) rfl (by first | exact .inl rfl | exact .inr (.inl rfl) | exact .inr (.inr rfl))) (sa_cons (so_var (i := 3) rfl (by first | exact .inl rfl | exact .inr (.inl rfl) | exact .inr (.inr rfl))) (sa_cons (so_of sv_int) sa_nil))) rfl rfl rfl rfl)) sa_nil)) rfl rfl rfl rfl)) sa_nil)) rfl rfl rfl rfl))))) sb_nil)
      (sb_one (ss_ret rfl (sv_if (st_cmp (op_eqD ok.u64) prim_eq (so_of (sv_call ok (h_law_pick _ (by omega)) hr (by rfl) (sa_cons (so_var (i := 0) rfl (by first | exact .inl rfl | exact .inr (.inl rfl) | exact .inr (.inr rfl))) (sa_cons (so_of sv_int) sa_nil)) rfl rfl rfl rfl)) (so_of sv_int) (nomark _)) (sv_call ok (h_law_made _ (by omega)) hr (by rfl) (sa_cons (so_of (sv_of (sf_lst sx_nil))) (sa_cons (so_of (sv_of (sf_lst sx_nil))) sa_nil)) rfl rfl rfl rfl) (sv_call ok (h_law_great_map _ (by omega)) hr (by rfl) (sa_cons (so_var (i := 0) rfl (by first | exact .inl rfl | exact .inr (.inl rfl) | exact .inr (.inr rfl))) sa_nil) rfl rfl rfl rfl)))))))))
abbrev s_Map_posts : Stmt := clsS 15 3
theorem sc_Map_posts : FnScope ["self"] ["self"] (defScope s_Map_posts) := ⟨rfl, rfl, rfl, by decide +kernel, rfl, by decide +kernel, by decide +kernel⟩
def m_Map_posts : M Fl := (sRet (eBt (fn1 listD) (mCons (oVal (mUn (fldD "Map" "own_posts") (oB 0))) (retM []))))
def g_Map_posts : Sig := ⟨[.bo], (some 0), runF 1 [.bo] m_Map_posts⟩
theorem ok_Map_posts {f : Addr} {fd : FuncData} {k : Nat} (hk : 0 ≤ k) (z : Facts K mg cl) (F : Fun K "posts" "Map.posts" s_Map_posts f fd) :
    FnG P w K mg base (L2.CX P w) (k + 1) f fd ["self"] (spOf ⟨K, cl⟩ g_Map_posts) :=
  fn_ok (G' := [.bo] ++ []) (ls := []) F sc_Map_posts rfl rfl rfl rfl fun cdv A outer s H E vs hr ok =>
    (sb_one (ss_retF rfl (sf_callTy prim_list (call_list_of) (by rfl) z.list (by decide +kernel) (sa_cons (so_of (sv_fld ok z.c_Map (by decide) (so_var (i := 0) rfl (by first | exact .inl rfl | exact .inr (.inl rfl) | exact .inr (.inr rfl))))) sa_nil))))
abbrev s_Map_check : Stmt := clsS 15 2
theorem sc_Map_check : FnScope ["self", "values", "value"] ["self", "values"] (defScope s_Map_check) := ⟨rfl, rfl, rfl, by decide +kernel, rfl, by decide +kernel, by decide +kernel⟩
def m_Map_check : M Fl := (sFor (mItems (oB 1)) (bName 2) (sIf (mNot (tOf (callM g_is_among none (mCons (oB 2) (mCons (oVal (mUn (fldD "Map" "own_posts") (oB 0))) (retM [])))))) sBad (retM .nx)))
def g_Map_check : Sig := ⟨[.bo, .bo], none, runF 3 [.bo, .bo] m_Map_check⟩
theorem ok_Map_check {f : Addr} {fd : FuncData} {k : Nat} (hk : 2 ≤ k) (z : Facts K mg cl) (F : Fun K "check" "Map.check" s_Map_check f fd) (h_is_among : FnL P w K mg base ⟨K, cl⟩ "is_among" 2 g_is_among) :
    FnG P w K mg base (L2.CX P w) (k + 1) f fd ["self", "values"] (spOf ⟨K, cl⟩ g_Map_check) :=
  fn_ok (G' := [.bo, .bo] ++ [.fz]) (ls := [.fz]) F sc_Map_check rfl rfl rfl rfl fun cdv A outer s H E vs hr ok =>
    (sb_one (ss_for (passes_of rfl) ok (si_any ok (so_var (i := 1) rfl (by first | exact .inl rfl | exact .inr (.inl rfl) | exact .inr (.inr rfl)))) (sg_name ok.nd (i := 2) rfl (by first | exact .inl rfl | exact .inr rfl) rfl (pinOk rfl)) (sb_one (ss_if (st_not (st_val (sv_call ok (h_is_among _ (by omega)) hr (by rfl) (sa_cons (so_var (i := 2) rfl (by first | exact .inl rfl | exact .inr (.inl rfl) | exact .inr (.inr rfl))) (sa_cons (so_of (sv_fld ok z.c_Map (by decide) (so_var (i := 0) rfl (by first | exact .inl rfl | exact .inr (.inl rfl) | exact .inr (.inr rfl))))) sa_nil)) rfl rfl rfl rfl))) (sb_one ss_raise) sb_nil))))
abbrev s_Map_near : Stmt := clsS 15 7
theorem sc_Map_near : FnScope ["self", "x", "post"] ["self", "x"] (defScope s_Map_near) := ⟨rfl, rfl, rfl, by decide +kernel, rfl, by decide +kernel, by decide +kernel⟩
def m_Map_near : M Fl := (sSeq (sExpr (mMeth "Map" "check" g_Map_check none (oB 0) (mCons (oVal (eLst (xCons (eV 1) (retM [])))) (retM []))))
  (sRet (mLc [2] (mItems (oVal (mUn (fldD "Map" "own_posts") (oB 0)))) (bName 2) (tOf (eBin (inB false) (oB 2) (oVal (eBin idxD (oVal (mUn (fldD "Map" "own_near") (oB 0))) (oB 1))))) (eV 2))))
def g_Map_near : Sig := ⟨[.bo, .fz], none, runF 3 [.bo, .fz] m_Map_near⟩
theorem ok_Map_near {f : Addr} {fd : FuncData} {k : Nat} (hk : 3 ≤ k) (z : Facts K mg cl) (F : Fun K "near" "Map.near" s_Map_near f fd) (h_Map_check : MtL P w K mg base ⟨K, cl⟩ "Map" "check" 3 g_Map_check) :
    FnG P w K mg base (L2.CX P w) (k + 1) f fd ["self", "x"] (spOf ⟨K, cl⟩ g_Map_near) :=
  fn_ok (G' := [.bo, .fz] ++ [.fz]) (ls := [.fz]) F sc_Map_near rfl rfl rfl rfl fun cdv A outer s H E vs hr ok =>
    (sb_cons (ss_expr (px_meth ok (h_Map_check _ (by omega)) hr (so_var (i := 0) rfl (by first | exact .inl rfl | exact .inr (.inl rfl) | exact .inr (.inr rfl))) (sa_cons (so_of (sv_of (sf_lst (sx_cons (k := none) (sv_var (i := 1) rfl (by first | exact .inl rfl | exact .inr (.inl rfl) | exact .inr (.inr rfl)) rfl) sx_nil)))) sa_nil) rfl rfl rfl))
      (sb_one (ss_ret rfl (sv_of (sf_lc ok (g := (gName 2)) (si_any ok (so_of (sv_fld ok z.c_Map (by decide) (so_var (i := 0) rfl (by first | exact .inl rfl | exact .inr (.inl rfl) | exact .inr (.inr rfl)))))) (own := [("post", 2)]) (blkOk_by rfl) (fun s2 H2 c2 cl2 fp2 => (sg_name (ok.blk s2 H2 _ c2 cl2 fp2).nd (i := 2) rfl (by first | exact .inl rfl | exact .inr rfl) rfl (pinOk rfl))) (fun s2 H2 c2 cl2 fp2 => (sts_one (st_cmp (op_inAll (ok.blk s2 H2 _ c2 cl2 fp2).un) prim_in (so_var (i := 2) rfl (by first | exact .inl rfl | exact .inr (.inl rfl) | exact .inr (.inr rfl))) (so_of (sv_idx (ok.blk s2 H2 _ c2 cl2 fp2) (so_of (sv_fld (ok.blk s2 H2 _ c2 cl2 fp2) z.c_Map (by decide) (so_var (i := 0) rfl (by first | exact .inl rfl | exact .inr (.inl rfl) | exact .inr (.inr rfl))))) (so_var (i := 1) rfl (by first | exact .inl rfl | exact .inr (.inl rfl) | exact .inr (.inr rfl))) (fun _ _ => rfl))) rfl))) (fun s2 H2 c2 cl2 fp2 => (sv_var (i := 2) rfl (by first | exact .inl rfl | exact .inr (.inl rfl) | exact .inr (.inr rfl)) rfl)) (allIn (is := [2]) (by decide)) (by decide) (allFz rfl) (pinOks rfl))))))
abbrev s_piece_of : Stmt := topS 16
theorem sc_piece_of : FnScope ["chart", "post", "found", "k", "other"] ["chart", "post"] (defScope s_piece_of) := ⟨rfl, rfl, rfl, by decide +kernel, rfl, by decide +kernel, by decide +kernel⟩
noncomputable def m_piece_of : M Fl := (sSeq (sSetL [2, 3] (xCons (eLst (xCons (eV 1) (retM []))) (xCons (eC (.int 0)) (retM []))))
  (sSeq (sWhile (tOf (eBin (cmpD fun i j => decide (i < j)) (oB 3) (oVal (eBt (fn1 lenS) (mCons (oB 2) (retM [])))))) (sSeq (sExpr (callMut 2 extD (xCons (mLc [4] (mItems (oVal (mMeth "Map" "near" g_Map_near none (oB 0) (mCons (oVal (eBin idxD (oB 2) (oB 3))) (retM []))))) (bName 4) (tOf (eBin (inB true) (oB 4) (oB 2))) (eV 4)) (retM []))))
  (sAug 3 (fun i j => i + j) (eC (.int 1)))))
  (sRet (eMov 2))))
noncomputable def g_piece_of : Sig := ⟨[.bo, .fz], none, runF 5 [.bo, .fz] m_piece_of⟩
theorem ok_piece_of {f : Addr} {fd : FuncData} {k : Nat} (hk : 4 ≤ k) (z : Facts K mg cl) (F : Fun K "piece_of" "piece_of" s_piece_of f fd) (h_Map_near : MtL P w K mg base ⟨K, cl⟩ "Map" "near" 4 g_Map_near) :
    FnG P w K mg base (L2.CX P w) (k + 1) f fd ["chart", "post"] (spOf ⟨K, cl⟩ g_piece_of) :=
  fn_ok (G' := [.bo, .fz] ++ [.ow 0, .fz, .fz]) (ls := [.ow 0, .fz, .fz]) F sc_piece_of rfl rfl rfl rfl fun cdv A outer s H E vs hr ok =>
    (sb_cons (ss_parN (is := [2, 3]) ok (PNames.cons (i := 2) rfl (by first | exact .inl rfl | exact .inr rfl) (PNames.cons (i := 3) rfl (by first | exact .inl rfl | exact .inr rfl) PNames.nil)) (sx_cons (k := some 0) (sf_lst (sx_cons (k := none) (sv_var (i := 1) rfl (by first | exact .inl rfl | exact .inr (.inl rfl) | exact .inr (.inr rfl)) rfl) sx_nil)) (sx_cons (k := none) sv_int sx_nil)) (pinAll rfl) (allLt rfl) rfl (by decide))
      (sb_cons (ss_while (passes_of rfl) (st_cmp (op_lt) prim_cmp (so_var (i := 3) rfl (by first | exact .inl rfl | exact .inr (.inl rfl) | exact .inr (.inr rfl))) (so_of (sv_of (sf_callB prim_lenS (call_len) (by rfl) z.len PySem.boot_len (sa_cons (so_var (i := 2) rfl (by first | exact .inl rfl | exact .inr (.inl rfl) | exact .inr (.inr rfl))) sa_nil)))) (nomark _)) (sb_cons (ss_expr (sv_mut (i := 2) mut_extend ok PySem.F.slot_list_extend PySem.F.type_list_extend (mt_extend) rfl (by first | exact .inl rfl | exact .inr (.inl rfl) | exact .inr (.inr rfl)) rfl rfl (sx_cons (k := none) (sv_of (sf_lc ok (g := (gName 4)) (si_any ok (so_of (px_meth ok (h_Map_near _ (by omega)) hr (so_var (i := 0) rfl (by first | exact .inl rfl | exact .inr (.inl rfl) | exact .inr (.inr rfl))) (sa_cons (so_of (sv_idx ok (so_var (i := 2) rfl (by first | exact .inl rfl | exact .inr (.inl rfl) | exact .inr (.inr rfl))) (so_var (i := 3) rfl (by first | exact .inl rfl | exact .inr (.inl rfl) | exact .inr (.inr rfl))) (fun _ _ => rfl))) sa_nil) rfl rfl rfl))) (own := [("other", 4)]) (blkOk_by rfl) (fun s2 H2 c2 cl2 fp2 => (sg_name (ok.blk s2 H2 _ c2 cl2 fp2).nd (i := 4) rfl (by first | exact .inl rfl | exact .inr rfl) rfl (pinOk rfl))) (fun s2 H2 c2 cl2 fp2 => (sts_one (st_cmp (op_notInAll (ok.blk s2 H2 _ c2 cl2 fp2).un) prim_in (so_var (i := 4) rfl (by first | exact .inl rfl | exact .inr (.inl rfl) | exact .inr (.inr rfl))) (so_var (i := 2) rfl (by first | exact .inl rfl | exact .inr (.inl rfl) | exact .inr (.inr rfl))) rfl))) (fun s2 H2 c2 cl2 fp2 => (sv_var (i := 4) rfl (by first | exact .inl rfl | exact .inr (.inl rfl) | exact .inr (.inr rfl)) rfl)) (allIn (is := [4]) (by decide)) (by decide) (allFz rfl) (pinOks rfl))) sx_nil)))
      (sb_one (ss_aug ok (i := 3) rfl (by first | exact .inl rfl | exact .inr rfl) rfl sv_int ip_add rfl rfl (pinOk rfl)))))
      (sb_one (ss_ret rfl (sv_of (sf_mov (i := 2) (k := 0) rfl (by first | exact .inl rfl | exact .inr (.inl rfl) | exact .inr (.inr rfl)) rfl))))))
abbrev s_pieces_of : Stmt := topS 17
theorem sc_pieces_of : FnScope ["chart", "post", "found", "met", "piece", "other"] ["chart"] (defScope s_pieces_of) := ⟨rfl, rfl, rfl, by decide +kernel, rfl, by decide +kernel, by decide +kernel⟩
noncomputable def m_pieces_of : M Fl := (sSeq (sSetL [2, 3] (xCons (eLst (retM [])) (xCons (eLst (retM [])) (retM []))))
  (sSeq (sFor (mItems (oVal (mMeth "Map" "posts" g_Map_posts none (oB 0) (retM [])))) (bName 1) (sIf (tOf (eBin (inB true) (oB 1) (oB 3))) (sSeq (sAsg 4 (callM g_piece_of none (mCons (oB 0) (mCons (oB 1) (retM [])))))
  (sSeq (sExpr (callMut 3 extD (xCons (eV 4) (retM []))))
  (sExpr (callMut 2 appD (xCons (eBt (fn1 tupleD) (mCons (oVal (mLc [5] (mItems (oVal (mMeth "Map" "posts" g_Map_posts none (oB 0) (retM [])))) (bName 5) (tOf (eBin (inB false) (oB 5) (oB 4))) (eV 5))) (retM []))) (retM [])))))) (retM .nx)))
  (sRet (eMov 2))))
noncomputable def g_pieces_of : Sig := ⟨[.bo], (some 0), runF 6 [.bo] m_pieces_of⟩
theorem ok_pieces_of {f : Addr} {fd : FuncData} {k : Nat} (hk : 5 ≤ k) (z : Facts K mg cl) (F : Fun K "pieces_of" "pieces_of" s_pieces_of f fd) (h_Map_posts : MtL P w K mg base ⟨K, cl⟩ "Map" "posts" 1 g_Map_posts) (h_piece_of : FnL P w K mg base ⟨K, cl⟩ "piece_of" 5 g_piece_of) :
    FnG P w K mg base (L2.CX P w) (k + 1) f fd ["chart"] (spOf ⟨K, cl⟩ g_pieces_of) :=
  fn_ok (G' := [.bo] ++ [.fz, .ow 0, .ow 0, .fz, .fz]) (ls := [.fz, .ow 0, .ow 0, .fz, .fz]) F sc_pieces_of rfl rfl rfl rfl fun cdv A outer s H E vs hr ok =>
    (sb_cons (ss_par2 ok (i := 2) (j := 3) rfl rfl (by decide) rfl rfl (sx_cons (k := some 0) (sf_lst sx_nil) (sx_cons (k := some 0) (sf_lst sx_nil) sx_nil)) (pinAll rfl) (allLt rfl) rfl)
      (sb_cons (ss_for (passes_of rfl) ok (si_any ok (so_of (sv_of (px_meth0 ok (h_Map_posts _ (by omega)) hr (so_var (i := 0) rfl (by first | exact .inl rfl | exact .inr (.inl rfl) | exact .inr (.inr rfl))) rfl rfl rfl)))) (sg_name ok.nd (i := 1) rfl (by first | exact .inl rfl | exact .inr rfl) rfl (pinOk rfl)) (sb_one (ss_if (st_cmp (op_notInAll ok.un) prim_in (so_var (i := 1) rfl (by first | exact .inl rfl | exact .inr (.inl rfl) | exact .inr (.inr rfl))) (so_var (i := 3) rfl (by first | exact .inl rfl | exact .inr (.inl rfl) | exact .inr (.inr rfl))) rfl) (sb_cons (ss_asg ok.nd (i := 4) rfl (by first | exact .inl rfl | exact .inr rfl) rfl (sv_call ok (h_piece_of _ (by omega)) hr (by rfl) (sa_cons (so_var (i := 0) rfl (by first | exact .inl rfl | exact .inr (.inl rfl) | exact .inr (.inr rfl))) (sa_cons (so_var (i := 1) rfl (by first | exact .inl rfl | exact .inr (.inl rfl) | exact .inr (.inr rfl))) sa_nil)) rfl rfl rfl rfl) (pinOk rfl))
      (sb_cons (ss_expr (sv_mut (i := 3) mut_extend ok PySem.F.slot_list_extend PySem.F.type_list_extend (mt_extend) rfl (by first | exact .inl rfl | exact .inr (.inl rfl) | exact .inr (.inr rfl)) rfl rfl (sx_cons (k := none) (sv_var (i := 4) rfl (by first | exact .inl rfl | exact .inr (.inl rfl) | exact .inr (.inr rfl)) rfl) sx_nil)))
      (sb_one (ss_expr (sv_mut (i := 2) mut_append ok PySem.F.slot_list_append PySem.F.type_list_append (mt_append) rfl (by first | exact .inl rfl | exact .inr (.inl rfl) | exact .inr (.inr rfl)) rfl rfl (sx_cons (k := none) (sv_of (sf_callTy prim_tuple (call_tuple_of) (by rfl) z.tuple (by decide +kernel) (sa_cons (so_of (sv_of (sf_lc ok (g := (gName 5)) (si_any ok (so_of (sv_of (px_meth0 ok (h_Map_posts _ (by omega)) hr (so_var (i := 0) rfl (by first | exact .inl rfl | exact .inr (.inl rfl) | exact .inr (.inr rfl))) rfl rfl rfl)))) (own := [("other", 5)]) (blkOk_by rfl) (fun s2 H2 c2 cl2 fp2 => (sg_name (ok.blk s2 H2 _ c2 cl2 fp2).nd (i := 5) rfl (by first | exact .inl rfl | exact .inr rfl) rfl (pinOk rfl))) (fun s2 H2 c2 cl2 fp2 => (sts_one (st_cmp (op_inAll (ok.blk s2 H2 _ c2 cl2 fp2).un) prim_in (so_var (i := 5) rfl (by first | exact .inl rfl | exact .inr (.inl rfl) | exact .inr (.inr rfl))) (so_var (i := 4) rfl (by first | exact .inl rfl | exact .inr (.inl rfl) | exact .inr (.inr rfl))) rfl))) (fun s2 H2 c2 cl2 fp2 => (sv_var (i := 5) rfl (by first | exact .inl rfl | exact .inr (.inl rfl) | exact .inr (.inr rfl)) rfl)) (allIn (is := [5]) (by decide)) (by decide) (allFz rfl) (pinOks rfl)))) sa_nil))) sx_nil)))))) sb_nil)))
      (sb_one (ss_retF rfl (sf_mov (i := 2) (k := 0) rfl (by first | exact .inl rfl | exact .inr (.inl rfl) | exact .inr (.inr rfl)) rfl)))))
abbrev s_law_some_of : Stmt := topS 39
theorem sc_law_some_of : FnScope ["_law_source_here", "_law_things", "_law_one"] ["_law_source_here", "_law_things"] (defScope s_law_some_of) := ⟨rfl, rfl, rfl, by decide +kernel, rfl, by decide +kernel, by decide +kernel⟩
noncomputable def m_law_some_of : M Fl := (sRet (mLc [2] (mItems (oB 1)) (bName 2) (tOf (eBin eqD (oVal (callM g_law_pick (some (0, 0)) (mCons (oB 0) (mCons (oVal (eC (.int 2))) (retM []))))) (oVal (eC (.int 0))))) (eV 2)))
noncomputable def g_law_some_of : Sig := ⟨[.ow 1, .bo], none, runF 3 [.ow 1, .bo] m_law_some_of⟩
theorem ok_law_some_of {f : Addr} {fd : FuncData} {k : Nat} (hk : 1 ≤ k) (z : Facts K mg cl) (F : Fun K "_law_some_of" "_law_some_of" s_law_some_of f fd) (h_law_pick : FnL P w K mg base ⟨K, cl⟩ "_law_pick" 1 g_law_pick) :
    FnG P w K mg base (L2.CX P w) (k + 1) f fd ["_law_source_here", "_law_things"] (spOf ⟨K, cl⟩ g_law_some_of) :=
  fn_ok (G' := [.ow 1, .bo] ++ [.fz]) (ls := [.fz]) F sc_law_some_of rfl rfl rfl rfl fun cdv A outer s H E vs hr ok =>
    (sb_one (ss_ret rfl (sv_of (sf_lc ok (g := (gName 2)) (si_any ok (so_var (i := 1) rfl (by first | exact .inl rfl | exact .inr (.inl rfl) | exact .inr (.inr rfl)))) (own := [("_law_one", 2)]) (blkOk_by rfl) (fun s2 H2 c2 cl2 fp2 => (sg_name (ok.blk s2 H2 _ c2 cl2 fp2).nd (i := 2) rfl (by first | exact .inl rfl | exact .inr rfl) rfl (pinOk rfl))) (fun s2 H2 c2 cl2 fp2 => (sts_one (st_cmp (op_eqD (ok.blk s2 H2 _ c2 cl2 fp2).u64) prim_eq (so_of (sv_call (ok.blk s2 H2 _ c2 cl2 fp2) (h_law_pick _ (by omega)) hr (by rfl) (sa_cons (so_var (i := 0) rfl (by first | exact .inl rfl | exact .inr (.inl rfl) | exact .inr (.inr rfl))) (sa_cons (so_of sv_int) sa_nil)) rfl rfl rfl rfl)) (so_of sv_int) (nomark _)))) (fun s2 H2 c2 cl2 fp2 => (sv_var (i := 2) rfl (by first | exact .inl rfl | exact .inr (.inl rfl) | exact .inr (.inr rfl)) rfl)) (allIn (is := [2]) (by decide)) (by decide) (allFz rfl) (pinOks rfl)))))
abbrev s_Map_ties : Stmt := clsS 15 4
theorem sc_Map_ties : FnScope ["self", "found", "k", "one", "other"] ["self"] (defScope s_Map_ties) := ⟨rfl, rfl, rfl, by decide +kernel, rfl, by decide +kernel, by decide +kernel⟩
def m_Map_ties : M Fl := (sSeq (sAsg 1 (eLst (retM [])))
  (sSeq (sFor (mEnumA (mCons (oVal (mUn (fldD "Map" "own_posts") (oB 0))) (retM []))) (bTup [(bName 2), (bName 3)]) (sExpr (callMut 1 extD (xCons (mLc [4] (mItems (oVal (eSlice (oVal (mUn (fldD "Map" "own_posts") (oB 0))) (mPart (eBin addD (oB 2) (oVal (eC (.int 1))))) (retM none)))) (bName 4) (tOf (eBin (inB false) (oB 4) (oVal (eBin idxD (oVal (mUn (fldD "Map" "own_near") (oB 0))) (oB 3))))) (eTup (xCons (eV 3) (xCons (eV 4) (retM []))))) (retM [])))))
  (sRet (eMov 1))))
def g_Map_ties : Sig := ⟨[.bo], none, runF 5 [.bo] m_Map_ties⟩
theorem ok_Map_ties {f : Addr} {fd : FuncData} {k : Nat} (hk : 0 ≤ k) (z : Facts K mg cl) (F : Fun K "ties" "Map.ties" s_Map_ties f fd) :
    FnG P w K mg base (L2.CX P w) (k + 1) f fd ["self"] (spOf ⟨K, cl⟩ g_Map_ties) :=
  fn_ok (G' := [.bo] ++ [.ow 0, .fz, .fz, .fz]) (ls := [.ow 0, .fz, .fz, .fz]) F sc_Map_ties rfl rfl rfl rfl fun cdv A outer s H E vs hr ok =>
    (sb_cons (ss_asgF ok.nd (i := 1) (k := 0) rfl (by first | exact .inl rfl | exact .inr rfl) rfl (sf_lst sx_nil) (pinOk rfl))
      (sb_cons (ss_for (passes_of rfl) ok (si_enumA ok (by rfl) z.enumerate (sa_cons (so_of (sv_fld ok z.c_Map (by decide) (so_var (i := 0) rfl (by first | exact .inl rfl | exact .inr (.inl rfl) | exact .inr (.inr rfl))))) sa_nil)) (sg_tup ok.calm (sgs_cons (sg_name ok.nd (i := 2) rfl (by first | exact .inl rfl | exact .inr rfl) rfl (pinOk rfl)) (sgs_cons (sg_name ok.nd (i := 3) rfl (by first | exact .inl rfl | exact .inr rfl) rfl (pinOk rfl)) sgs_nil)) rfl) (sb_one (ss_expr (sv_mut (i := 1) mut_extend ok PySem.F.slot_list_extend PySem.F.type_list_extend (mt_extend) rfl (by first | exact .inl rfl | exact .inr (.inl rfl) | exact .inr (.inr rfl)) rfl rfl (sx_cons (k := none) (sv_of (sf_lc ok (g := (gName 4)) (si_any ok (so_of (sv_of (sf_slice ok (so_of (sv_fld ok z.c_Map (by decide) (so_var (i := 0) rfl (by first | exact .inl rfl | exact .inr (.inl rfl) | exact .inr (.inr rfl))))) (sp_some (sv_of (sf_bin (op_addA) prim_add (so_var (i := 2) rfl (by first | exact .inl rfl | exact .inr (.inl rfl) | exact .inr (.inr rfl))) (so_of sv_int)))) sp_none)))) (own := [("other", 4)]) (blkOk_by rfl) (fun s2 H2 c2 cl2 fp2 => (sg_name (ok.blk s2 H2 _ c2 cl2 fp2).nd (i := 4) rfl (by first | exact .inl rfl | exact .inr rfl) rfl (pinOk rfl))) (fun s2 H2 c2 cl2 fp2 => (sts_one (st_cmp (op_inAll (ok.blk s2 H2 _ c2 cl2 fp2).un) prim_in (so_var (i := 4) rfl (by first | exact .inl rfl | exact .inr (.inl rfl) | exact .inr (.inr rfl))) (so_of (sv_idx (ok.blk s2 H2 _ c2 cl2 fp2) (so_of (sv_fld (ok.blk s2 H2 _ c2 cl2 fp2) z.c_Map (by decide) (so_var (i := 0) rfl (by first | exact .inl rfl | exact .inr (.inl rfl) | exact .inr (.inr rfl))))) (so_var (i := 3) rfl (by first | exact .inl rfl | exact .inr (.inl rfl) | exact .inr (.inr rfl))) (fun _ _ => rfl))) rfl))) (fun s2 H2 c2 cl2 fp2 => (sv_of (sf_tup (sx_cons (k := none) (sv_var (i := 3) rfl (by first | exact .inl rfl | exact .inr (.inl rfl) | exact .inr (.inr rfl)) rfl) (sx_cons (k := none) (sv_var (i := 4) rfl (by first | exact .inl rfl | exact .inr (.inl rfl) | exact .inr (.inr rfl)) rfl) sx_nil))))) (allIn (is := [4]) (by decide)) (by decide) (allFz rfl) (pinOks rfl))) sx_nil)))))
      (sb_one (ss_ret rfl (sv_of (sf_mov (i := 1) (k := 0) rfl (by first | exact .inl rfl | exact .inr (.inl rfl) | exact .inr (.inr rfl)) rfl))))))
abbrev s_part_map : Stmt := topS 18
theorem sc_part_map : FnScope ["chart", "posts", "ties", "tie", "post"] ["chart", "posts"] (defScope s_part_map) := ⟨rfl, rfl, rfl, by decide +kernel, rfl, by decide +kernel, by decide +kernel⟩
def m_part_map : M Fl := (sSeq (sExpr (mMeth "Map" "check" g_Map_check none (oB 0) (mCons (oB 1) (retM []))))
  (sSeq (sAsg 2 (mLc [3] (mItems (oVal (mMeth "Map" "ties" g_Map_ties none (oB 0) (retM [])))) (bName 3) (mAnd (tOf (eBin (inB false) (oVal (eBin idxD (oB 3) (oVal (eC (.int 0))))) (oB 1))) (tOf (eBin (inB false) (oVal (eBin idxD (oB 3) (oVal (eC (.int 1))))) (oB 1)))) (eV 3)))
  (sRet (makeM "Map" g_Map___init__ (mCons (oVal (mLc [4] (mItems (oVal (mMeth "Map" "posts" g_Map_posts none (oB 0) (retM [])))) (bName 4) (tOf (eBin (inB false) (oB 4) (oB 1))) (eV 4))) (mCons (oB 2) (retM [])))))))
def g_part_map : Sig := ⟨[.bo, .bo], none, runF 5 [.bo, .bo] m_part_map⟩
theorem ok_part_map {f : Addr} {fd : FuncData} {k : Nat} (hk : 5 ≤ k) (z : Facts K mg cl) (F : Fun K "part_map" "part_map" s_part_map f fd) (h_Map_check : MtL P w K mg base ⟨K, cl⟩ "Map" "check" 3 g_Map_check) (h_Map_ties : MtL P w K mg base ⟨K, cl⟩ "Map" "ties" 1 g_Map_ties) (h_Map___init__ : MkL P w K mg base ⟨K, cl⟩ "Map" "Map" 4 g_Map___init__) (h_Map_posts : MtL P w K mg base ⟨K, cl⟩ "Map" "posts" 1 g_Map_posts) :
    FnG P w K mg base (L2.CX P w) (k + 1) f fd ["chart", "posts"] (spOf ⟨K, cl⟩ g_part_map) :=
  fn_ok (G' := [.bo, .bo] ++ [.fz, .fz, .fz]) (ls := [.fz, .fz, .fz]) F sc_part_map rfl rfl rfl rfl fun cdv A outer s H E vs hr ok =>
    (sb_cons (ss_expr (px_meth ok (h_Map_check _ (by omega)) hr (so_var (i := 0) rfl (by first | exact .inl rfl | exact .inr (.inl rfl) | exact .inr (.inr rfl))) (sa_cons (so_var (i := 1) rfl (by first | exact .inl rfl | exact .inr (.inl rfl) | exact .inr (.inr rfl))) sa_nil) rfl rfl rfl))
      (sb_cons (ss_weak (G' := [.bo, .bo, .fz, .fz, .fz]) (ss_asgLc ok (i := 2) rfl rfl rfl (pinOk rfl) (g := (gName 3)) (si_any ok (so_of (px_meth0 ok (h_Map_ties _ (by omega)) hr (so_var (i := 0) rfl (by first | exact .inl rfl | exact .inr (.inl rfl) | exact .inr (.inr rfl))) rfl rfl rfl))) (own := [("tie", 3)]) (blkOk_by rfl) (fun s2 H2 c2 cl2 fp2 => (sg_name (ok.blk s2 H2 _ c2 cl2 fp2).nd (i := 3) rfl (by first | exact .inl rfl | exact .inr rfl) rfl (pinOk rfl))) (fun s2 H2 c2 cl2 fp2 => (sts_one (st_of_w (sw_and (st_cmp (op_inAll (ok.blk s2 H2 _ c2 cl2 fp2).un) prim_in (so_of (sv_idx (ok.blk s2 H2 _ c2 cl2 fp2) (so_var (i := 3) rfl (by first | exact .inl rfl | exact .inr (.inl rfl) | exact .inr (.inr rfl))) (so_of sv_int) (fun _ _ => rfl))) (so_var (i := 1) rfl (by first | exact .inl rfl | exact .inr (.inl rfl) | exact .inr (.inr rfl))) rfl) (sw_and1 (st_cmp (op_inAll (ok.blk s2 H2 _ c2 cl2 fp2).un) prim_in (so_of (sv_idx (ok.blk s2 H2 _ c2 cl2 fp2) (so_var (i := 3) rfl (by first | exact .inl rfl | exact .inr (.inl rfl) | exact .inr (.inr rfl))) (so_of sv_int) (fun _ _ => rfl))) (so_var (i := 1) rfl (by first | exact .inl rfl | exact .inr (.inl rfl) | exact .inr (.inr rfl))) rfl)))))) (fun s2 H2 c2 cl2 fp2 => (sv_var (i := 3) rfl (by first | exact .inl rfl | exact .inr (.inl rfl) | exact .inr (.inr rfl)) rfl)) (allIn (is := [3]) (by decide)) (by decide) (allFz rfl) (pinOks rfl)))
      (sb_one (ss_ret rfl (sv_of (sf_make ok (h_Map___init__ (k - 1) (by omega)) (hr.mono (by omega)) (by rfl) rfl rfl (sa_cons (so_of (sv_of (sf_lc ok (g := (gName 4)) (si_any ok (so_of (sv_of (px_meth0 ok (h_Map_posts _ (by omega)) hr (so_var (i := 0) rfl (by first | exact .inl rfl | exact .inr (.inl rfl) | exact .inr (.inr rfl))) rfl rfl rfl)))) (own := [("post", 4)]) (blkOk_by rfl) (fun s2 H2 c2 cl2 fp2 => (sg_name (ok.blk s2 H2 _ c2 cl2 fp2).nd (i := 4) rfl (by first | exact .inl rfl | exact .inr rfl) rfl (pinOk rfl))) (fun s2 H2 c2 cl2 fp2 => (sts_one (st_cmp (op_inAll (ok.blk s2 H2 _ c2 cl2 fp2).un) prim_in (so_var (i := 4) rfl (by first | exact .inl rfl | exact .inr (.inl rfl) | exact .inr (.inr rfl))) (so_var (i := 1) rfl (by first | exact .inl rfl | exact .inr (.inl rfl) | exact .inr (.inr rfl))) rfl))) (fun s2 H2 c2 cl2 fp2 => (sv_var (i := 4) rfl (by first | exact .inl rfl | exact .inr (.inl rfl) | exact .inr (.inr rfl)) rfl)) (allIn (is := [4]) (by decide)) (by decide) (allFz rfl) (pinOks rfl)))) (sa_cons (so_var (i := 2) rfl (by first | exact .inl rfl | exact .inr (.inl rfl) | exact .inr (.inr rfl))) sa_nil)) rfl rfl))))))
abbrev s_map_without : Stmt := topS 19
theorem sc_map_without : FnScope ["chart", "posts", "post"] ["chart", "posts"] (defScope s_map_without) := ⟨rfl, rfl, rfl, by decide +kernel, rfl, by decide +kernel, by decide +kernel⟩
def m_map_without : M Fl := (sSeq (sExpr (mMeth "Map" "check" g_Map_check none (oB 0) (mCons (oB 1) (retM []))))
  (sRet (callM g_part_map none (mCons (oB 0) (mCons (oVal (mLc [2] (mItems (oVal (mMeth "Map" "posts" g_Map_posts none (oB 0) (retM [])))) (bName 2) (tOf (eBin (inB true) (oB 2) (oB 1))) (eV 2))) (retM []))))))
def g_map_without : Sig := ⟨[.bo, .bo], none, runF 3 [.bo, .bo] m_map_without⟩
theorem ok_map_without {f : Addr} {fd : FuncData} {k : Nat} (hk : 6 ≤ k) (z : Facts K mg cl) (F : Fun K "map_without" "map_without" s_map_without f fd) (h_Map_check : MtL P w K mg base ⟨K, cl⟩ "Map" "check" 3 g_Map_check) (h_part_map : FnL P w K mg base ⟨K, cl⟩ "part_map" 6 g_part_map) (h_Map_posts : MtL P w K mg base ⟨K, cl⟩ "Map" "posts" 1 g_Map_posts) :
    FnG P w K mg base (L2.CX P w) (k + 1) f fd ["chart", "posts"] (spOf ⟨K, cl⟩ g_map_without) :=
  fn_ok (G' := [.bo, .bo] ++ [.fz]) (ls := [.fz]) F sc_map_without rfl rfl rfl rfl fun cdv A outer s H E vs hr ok =>
    (sb_cons (ss_expr (px_meth ok (h_Map_check _ (by omega)) hr (so_var (i := 0) rfl (by first | exact .inl rfl | exact .inr (.inl rfl) | exact .inr (.inr rfl))) (sa_cons (so_var (i := 1) rfl (by first | exact .inl rfl | exact .inr (.inl rfl) | exact .inr (.inr rfl))) sa_nil) rfl rfl rfl))
      (sb_one (ss_ret rfl (sv_call ok (h_part_map _ (by omega)) hr (by rfl) (sa_cons (so_var (i := 0) rfl (by first | exact .inl rfl | exact .inr (.inl rfl) | exact .inr (.inr rfl))) (sa_cons (so_of (sv_of (sf_lc ok (g := (gName 2)) (si_any ok (so_of (sv_of (px_meth0 ok (h_Map_posts _ (by omega)) hr (so_var (i := 0) rfl (by first | exact .inl rfl | exact .inr (.inl rfl) | exact .inr (.inr rfl))) rfl rfl rfl)))) (own := [("post", 2)]) (blkOk_by rfl) (fun s2 H2 c2 cl2 fp2 => (sg_name (ok.blk s2 H2 _ c2 cl2 fp2).nd (i := 2) rfl (by first | exact .inl rfl | exact .inr rfl) rfl (pinOk rfl))) (fun s2 H2 c2 cl2 fp2 => (sts_one (st_cmp (op_notInAll (ok.blk s2 H2 _ c2 cl2 fp2).un) prim_in (so_var (i := 2) rfl (by first | exact .inl rfl | exact .inr (.inl rfl) | exact .inr (.inr rfl))) (so_var (i := 1) rfl (by first | exact .inl rfl | exact .inr (.inl rfl) | exact .inr (.inr rfl))) rfl))) (fun s2 H2 c2 cl2 fp2 => (sv_var (i := 2) rfl (by first | exact .inl rfl | exact .inr (.inl rfl) | exact .inr (.inr rfl)) rfl)) (allIn (is := [2]) (by decide)) (by decide) (allFz rfl) (pinOks rfl)))) sa_nil)) rfl rfl rfl rfl))))
abbrev s_joined_maps : Stmt := topS 20
theorem sc_joined_maps : FnScope ["one", "other"] ["one", "other"] (defScope s_joined_maps) := ⟨rfl, rfl, rfl, by decide +kernel, rfl, by decide +kernel, by decide +kernel⟩
def m_joined_maps : M Fl := (sRet (makeM "Map" g_Map___init__ (mCons (oVal (eBin addD (oVal (mMeth "Map" "posts" g_Map_posts none (oB 0) (retM []))) (oVal (mMeth "Map" "posts" g_Map_posts none (oB 1) (retM []))))) (mCons (oVal (eBin addD (oVal (mMeth "Map" "ties" g_Map_ties none (oB 0) (retM []))) (oVal (mMeth "Map" "ties" g_Map_ties none (oB 1) (retM []))))) (retM [])))))
def g_joined_maps : Sig := ⟨[.bo, .bo], none, runF 2 [.bo, .bo] m_joined_maps⟩
theorem ok_joined_maps {f : Addr} {fd : FuncData} {k : Nat} (hk : 5 ≤ k) (z : Facts K mg cl) (F : Fun K "joined_maps" "joined_maps" s_joined_maps f fd) (h_Map___init__ : MkL P w K mg base ⟨K, cl⟩ "Map" "Map" 4 g_Map___init__) (h_Map_posts : MtL P w K mg base ⟨K, cl⟩ "Map" "posts" 1 g_Map_posts) (h_Map_ties : MtL P w K mg base ⟨K, cl⟩ "Map" "ties" 1 g_Map_ties) :
    FnG P w K mg base (L2.CX P w) (k + 1) f fd ["one", "other"] (spOf ⟨K, cl⟩ g_joined_maps) :=
  fn_ok (G' := [.bo, .bo] ++ []) (ls := []) F sc_joined_maps rfl rfl rfl rfl fun cdv A outer s H E vs hr ok =>
    (sb_one (ss_ret rfl (sv_of (sf_make ok (h_Map___init__ (k - 1) (by omega)) (hr.mono (by omega)) (by rfl) rfl rfl (sa_cons (so_of (sv_of (sf_bin (op_addA) prim_add (so_of (sv_of (px_meth0 ok (h_Map_posts _ (by omega)) hr (so_var (i := 0) rfl (by first | exact .inl rfl | exact .inr (.inl rfl) | exact .inr (.inr rfl))) rfl rfl rfl))) (so_of (sv_of (px_meth0 ok (h_Map_posts _ (by omega)) hr (so_var (i := 1) rfl (by first | exact .inl rfl | exact .inr (.inl rfl) | exact .inr (.inr rfl))) rfl rfl rfl)))))) (sa_cons (so_of (sv_of (sf_bin (op_addA) prim_add (so_of (px_meth0 ok (h_Map_ties _ (by omega)) hr (so_var (i := 0) rfl (by first | exact .inl rfl | exact .inr (.inl rfl) | exact .inr (.inr rfl))) rfl rfl rfl)) (so_of (px_meth0 ok (h_Map_ties _ (by omega)) hr (so_var (i := 1) rfl (by first | exact .inl rfl | exact .inr (.inl rfl) | exact .inr (.inr rfl))) rfl rfl rfl))))) sa_nil)) rfl rfl))))
abbrev s_Map___eq__ : Stmt := clsS 15 1
theorem sc_Map___eq__ : FnScope ["self", "other"] ["self", "other"] (defScope s_Map___eq__) := ⟨rfl, rfl, rfl, by decide +kernel, rfl, by decide +kernel, by decide +kernel⟩
def m_Map___eq__ : M Fl := (sRet (eAnd (mIsi (isiOD "Map") (oB 1)) (eAnd (eBin eqD (oVal (mUn (fldD "Map" "own_posts") (oB 0))) (oVal (mUn (fldD "Map" "own_posts") (oB 1)))) (eBin eqDG (oVal (mUn (fldD "Map" "own_near") (oB 0))) (oVal (mUn (fldD "Map" "own_near") (oB 1)))))))
def g_Map___eq__ : Sig := ⟨[.bo, .bo], none, runF 2 [.bo, .bo] m_Map___eq__⟩
theorem ok_Map___eq__ {f : Addr} {fd : FuncData} {k : Nat} (hk : 0 ≤ k) (z : Facts K mg cl) (F : Fun K "__eq__" "Map.__eq__" s_Map___eq__ f fd) :
    FnG P w K mg base (L2.CX P w) (k + 1) f fd ["self", "other"] (spOf ⟨K, cl⟩ g_Map___eq__) :=
  fn_ok (G' := [.bo, .bo] ++ []) (ls := []) F sc_Map___eq__ rfl rfl rfl rfl fun cdv A outer s H E vs hr ok =>
    (sb_one (ss_ret rfl (sv_and ok (sv_isiO ok (by rfl) z.isinstance (so_var (i := 1) rfl (by first | exact .inl rfl | exact .inr (.inl rfl) | exact .inr (.inr rfl))) (by rfl) z.is_Map) (sv_and ok (sv_of (sf_cmp (op_eqD ok.u64) prim_eq (so_of (sv_fld ok z.c_Map (by decide) (so_var (i := 0) rfl (by first | exact .inl rfl | exact .inr (.inl rfl) | exact .inr (.inr rfl))))) (so_of (sv_fld ok z.c_Map (by decide) (so_var (i := 1) rfl (by first | exact .inl rfl | exact .inr (.inl rfl) | exact .inr (.inr rfl))))) (nomark _))) (sv_one (sv_of (sf_cmp (op_eqDicQ (by have := (ok).un; omega)) prim_eqDicQ (so_of (sv_fld ok z.c_Map (by decide) (so_var (i := 0) rfl (by first | exact .inl rfl | exact .inr (.inl rfl) | exact .inr (.inr rfl))))) (so_of (sv_fld ok z.c_Map (by decide) (so_var (i := 1) rfl (by first | exact .inl rfl | exact .inr (.inl rfl) | exact .inr (.inr rfl))))) (nomark _))))))))
abbrev s_without_tie : Stmt := topS 22
theorem sc_without_tie : FnScope ["chart", "x", "y", "tie"] ["chart", "x", "y"] (defScope s_without_tie) := ⟨rfl, rfl, rfl, by decide +kernel, rfl, by decide +kernel, by decide +kernel⟩
def m_without_tie : M Fl := (sSeq (sExpr (mMeth "Map" "check" g_Map_check none (oB 0) (mCons (oVal (eLst (xCons (eV 1) (xCons (eV 2) (retM []))))) (retM []))))
  (sRet (makeM "Map" g_Map___init__ (mCons (oVal (mMeth "Map" "posts" g_Map_posts none (oB 0) (retM []))) (mCons (oVal (mLc [3] (mItems (oVal (mMeth "Map" "ties" g_Map_ties none (oB 0) (retM [])))) (bName 3) (tOf (eBin (inTB true) (oB 3) (oVal (eTup (xCons (eTup (xCons (eV 1) (xCons (eV 2) (retM [])))) (xCons (eTup (xCons (eV 2) (xCons (eV 1) (retM [])))) (retM []))))))) (eV 3))) (retM []))))))
def g_without_tie : Sig := ⟨[.bo, .fz, .fz], none, runF 4 [.bo, .fz, .fz] m_without_tie⟩
theorem ok_without_tie {f : Addr} {fd : FuncData} {k : Nat} (hk : 5 ≤ k) (z : Facts K mg cl) (F : Fun K "without_tie" "without_tie" s_without_tie f fd) (h_Map_check : MtL P w K mg base ⟨K, cl⟩ "Map" "check" 3 g_Map_check) (h_Map___init__ : MkL P w K mg base ⟨K, cl⟩ "Map" "Map" 4 g_Map___init__) (h_Map_posts : MtL P w K mg base ⟨K, cl⟩ "Map" "posts" 1 g_Map_posts) (h_Map_ties : MtL P w K mg base ⟨K, cl⟩ "Map" "ties" 1 g_Map_ties) :
    FnG P w K mg base (L2.CX P w) (k + 1) f fd ["chart", "x", "y"] (spOf ⟨K, cl⟩ g_without_tie) :=
  fn_ok (G' := [.bo, .fz, .fz] ++ [.fz]) (ls := [.fz]) F sc_without_tie rfl rfl rfl rfl fun cdv A outer s H E vs hr ok =>
    (sb_cons (ss_expr (px_meth ok (h_Map_check _ (by omega)) hr (so_var (i := 0) rfl (by first | exact .inl rfl | exact .inr (.inl rfl) | exact .inr (.inr rfl))) (sa_cons (so_of (sv_of (sf_lst (sx_cons (k := none) (sv_var (i := 1) rfl (by first | exact .inl rfl | exact .inr (.inl rfl) | exact .inr (.inr rfl)) rfl) (sx_cons (k := none) (sv_var (i := 2) rfl (by first | exact .inl rfl | exact .inr (.inl rfl) | exact .inr (.inr rfl)) rfl) sx_nil))))) sa_nil) rfl rfl rfl))
      (sb_one (ss_ret rfl (sv_of (sf_make ok (h_Map___init__ (k - 1) (by omega)) (hr.mono (by omega)) (by rfl) rfl rfl (sa_cons (so_of (sv_of (px_meth0 ok (h_Map_posts _ (by omega)) hr (so_var (i := 0) rfl (by first | exact .inl rfl | exact .inr (.inl rfl) | exact .inr (.inr rfl))) rfl rfl rfl))) (sa_cons (so_of (sv_of (sf_lc ok (g := (gName 3)) (si_any ok (so_of (px_meth0 ok (h_Map_ties _ (by omega)) hr (so_var (i := 0) rfl (by first | exact .inl rfl | exact .inr (.inl rfl) | exact .inr (.inr rfl))) rfl rfl rfl))) (own := [("tie", 3)]) (blkOk_by rfl) (fun s2 H2 c2 cl2 fp2 => (sg_name (ok.blk s2 H2 _ c2 cl2 fp2).nd (i := 3) rfl (by first | exact .inl rfl | exact .inr rfl) rfl (pinOk rfl))) (fun s2 H2 c2 cl2 fp2 => (sts_one (st_cmp (op_notInTD (ok.blk s2 H2 _ c2 cl2 fp2).u65) prim_inT (so_var (i := 3) rfl (by first | exact .inl rfl | exact .inr (.inl rfl) | exact .inr (.inr rfl))) (so_of (sv_of (sf_tup (sx_cons (k := none) (sv_of (sf_tup (sx_cons (k := none) (sv_var (i := 1) rfl (by first | exact .inl rfl | exact .inr (.inl rfl) | exact .inr (.inr rfl)) rfl) (sx_cons (k := none) (sv_var (i := 2) rfl (by first | exact .inl rfl | exact .inr (.inl rfl) | exact .inr (.inr rfl)) rfl) sx_nil)))) (sx_cons (k := none) (sv_of (sf_tup (sx_cons (k := none) (sv_var (i := 2) rfl (by first | exact .inl rfl | exact .inr (.inl rfl) | exact .inr (.inr rfl)) rfl) (sx_cons (k := none) (sv_var (i := 1) rfl (by first | exact .inl rfl | exact .inr (.inl rfl) | exact .inr (.inr rfl)) rfl) sx_nil)))) sx_nil))))) rfl))) (fun s2 H2 c2 cl2 fp2 => (sv_var (i := 3) rfl (by first | exact .inl rfl | exact .inr (.inl rfl) | exact .inr (.inr rfl)) rfl)) (allIn (is := [3]) (by decide)) (by decide) (allFz rfl) (pinOks rfl)))) sa_nil)) rfl rfl)))))
abbrev s_with_tie : Stmt := topS 23
theorem sc_with_tie : FnScope ["chart", "x", "y", "less"] ["chart", "x", "y"] (defScope s_with_tie) := ⟨rfl, rfl, rfl, by decide +kernel, rfl, by decide +kernel, by decide +kernel⟩
def m_with_tie : M Fl := (sSeq (sAsg 3 (callM g_without_tie none (mCons (oB 0) (mCons (oB 1) (mCons (oB 2) (retM []))))))
  (sRet (eIf (tOf (eBin eqD (oB 1) (oB 2))) (eV 3) (makeM "Map" g_Map___init__ (mCons (oVal (mMeth "Map" "posts" g_Map_posts none (oB 3) (retM []))) (mCons (oVal (eLstS (xStar (oVal (mMeth "Map" "ties" g_Map_ties none (oB 3) (retM []))) (xCons (eTup (xCons (eV 1) (xCons (eV 2) (retM [])))) (retM []))))) (retM [])))))))
def g_with_tie : Sig := ⟨[.bo, .fz, .fz], none, runF 4 [.bo, .fz, .fz] m_with_tie⟩
theorem ok_with_tie {f : Addr} {fd : FuncData} {k : Nat} (hk : 6 ≤ k) (z : Facts K mg cl) (F : Fun K "with_tie" "with_tie" s_with_tie f fd) (h_without_tie : FnL P w K mg base ⟨K, cl⟩ "without_tie" 6 g_without_tie) (h_Map___init__ : MkL P w K mg base ⟨K, cl⟩ "Map" "Map" 4 g_Map___init__) (h_Map_posts : MtL P w K mg base ⟨K, cl⟩ "Map" "posts" 1 g_Map_posts) (h_Map_ties : MtL P w K mg base ⟨K, cl⟩ "Map" "ties" 1 g_Map_ties) :
    FnG P w K mg base (L2.CX P w) (k + 1) f fd ["chart", "x", "y"] (spOf ⟨K, cl⟩ g_with_tie) :=
  fn_ok (G' := [.bo, .fz, .fz] ++ [.fz]) (ls := [.fz]) F sc_with_tie rfl rfl rfl rfl fun cdv A outer s H E vs hr ok =>
    (sb_cons (ss_asg ok.nd (i := 3) rfl (by first | exact .inl rfl | exact .inr rfl) rfl (sv_call ok (h_without_tie _ (by omega)) hr (by rfl) (sa_cons (so_var (i := 0) rfl (by first | exact .inl rfl | exact .inr (.inl rfl) | exact .inr (.inr rfl))) (sa_cons (so_var (i := 1) rfl (by first | exact .inl rfl | exact .inr (.inl rfl) | exact .inr (.inr rfl))) (sa_cons (so_var (i := 2) rfl (by first | exact .inl rfl | exact .inr (.inl rfl) | exact .inr (.inr rfl))) sa_nil))) rfl rfl rfl rfl) (pinOk rfl))
      (sb_one (ss_ret rfl (sv_if (st_cmp (op_eqD ok.u64) prim_eq (so_var (i := 1) rfl (by first | exact .inl rfl | exact .inr (.inl rfl) | exact .inr (.inr rfl))) (so_var (i := 2) rfl (by first | exact .inl rfl | exact .inr (.inl rfl) | exact .inr (.inr rfl))) (nomark _)) (sv_var (i := 3) rfl (by first | exact .inl rfl | exact .inr (.inl rfl) | exact .inr (.inr rfl)) rfl) (sv_of (sf_make ok (h_Map___init__ (k - 1) (by omega)) (hr.mono (by omega)) (by rfl) rfl rfl (sa_cons (so_of (sv_of (px_meth0 ok (h_Map_posts _ (by omega)) hr (so_var (i := 3) rfl (by first | exact .inl rfl | exact .inr (.inl rfl) | exact .inr (.inr rfl))) rfl rfl rfl))) (sa_cons (so_of (sv_of (sf_lstS (sxs_star (so_of (px_meth0 ok (h_Map_ties _ (by omega)) hr (so_var (i := 3) rfl (by first | exact .inl rfl | exact .inr (.inl rfl) | exact .inr (.inr rfl))) rfl rfl rfl)) (sxs_cons (sv_of (sf_tup (sx_cons (k := none) (sv_var (i := 1) rfl (by first | exact .inl rfl | exact .inr (.inl rfl) | exact .inr (.inr rfl)) rfl) (sx_cons (k := none) (sv_var (i := 2) rfl (by first | exact .inl rfl | exact .inr (.inl rfl) | exact .inr (.inr rfl)) rfl) sx_nil)))) sxs_nil))))) sa_nil)) rfl rfl))))))
abbrev s_Map_is_near : Stmt := clsS 15 6
theorem sc_Map_is_near : FnScope ["self", "x", "y"] ["self", "x", "y"] (defScope s_Map_is_near) := ⟨rfl, rfl, rfl, by decide +kernel, rfl, by decide +kernel, by decide +kernel⟩
def m_Map_is_near : M Fl := (sSeq (sExpr (mMeth "Map" "check" g_Map_check none (oB 0) (mCons (oVal (eLst (xCons (eV 1) (xCons (eV 2) (retM []))))) (retM []))))
  (sRet (eBin (inB false) (oB 2) (oVal (eBin idxD (oVal (mUn (fldD "Map" "own_near") (oB 0))) (oB 1))))))
def g_Map_is_near : Sig := ⟨[.bo, .fz, .fz], none, runF 3 [.bo, .fz, .fz] m_Map_is_near⟩
theorem ok_Map_is_near {f : Addr} {fd : FuncData} {k : Nat} (hk : 3 ≤ k) (z : Facts K mg cl) (F : Fun K "is_near" "Map.is_near" s_Map_is_near f fd) (h_Map_check : MtL P w K mg base ⟨K, cl⟩ "Map" "check" 3 g_Map_check) :
    FnG P w K mg base (L2.CX P w) (k + 1) f fd ["self", "x", "y"] (spOf ⟨K, cl⟩ g_Map_is_near) :=
  fn_ok (G' := [.bo, .fz, .fz] ++ []) (ls := []) F sc_Map_is_near rfl rfl rfl rfl fun cdv A outer s H E vs hr ok =>
    (sb_cons (ss_expr (px_meth ok (h_Map_check _ (by omega)) hr (so_var (i := 0) rfl (by first | exact .inl rfl | exact .inr (.inl rfl) | exact .inr (.inr rfl))) (sa_cons (so_of (sv_of (sf_lst (sx_cons (k := none) (sv_var (i := 1) rfl (by first | exact .inl rfl | exact .inr (.inl rfl) | exact .inr (.inr rfl)) rfl) (sx_cons (k := none) (sv_var (i := 2) rfl (by first | exact .inl rfl | exact .inr (.inl rfl) | exact .inr (.inr rfl)) rfl) sx_nil))))) sa_nil) rfl rfl rfl))
      (sb_one (ss_ret rfl (sv_of (sf_cmp (op_inAll ok.un) prim_in (so_var (i := 2) rfl (by first | exact .inl rfl | exact .inr (.inl rfl) | exact .inr (.inr rfl))) (so_of (sv_idx ok (so_of (sv_fld ok z.c_Map (by decide) (so_var (i := 0) rfl (by first | exact .inl rfl | exact .inr (.inl rfl) | exact .inr (.inr rfl))))) (so_var (i := 1) rfl (by first | exact .inl rfl | exact .inr (.inl rfl) | exact .inr (.inr rfl))) (fun _ _ => rfl))) rfl)))))
abbrev s_both_near : Stmt := topS 21
theorem sc_both_near : FnScope ["chart", "x", "y", "post"] ["chart", "x", "y"] (defScope s_both_near) := ⟨rfl, rfl, rfl, by decide +kernel, rfl, by decide +kernel, by decide +kernel⟩
def m_both_near : M Fl := (sSeq (sExpr (mMeth "Map" "check" g_Map_check none (oB 0) (mCons (oVal (eLst (xCons (eV 1) (xCons (eV 2) (retM []))))) (retM []))))
  (sRet (mLc [3] (mItems (oVal (mMeth "Map" "near" g_Map_near none (oB 0) (mCons (oB 1) (retM []))))) (bName 3) (tOf (mMeth "Map" "is_near" g_Map_is_near none (oB 0) (mCons (oB 3) (mCons (oB 2) (retM []))))) (eV 3))))
def g_both_near : Sig := ⟨[.bo, .fz, .fz], none, runF 4 [.bo, .fz, .fz] m_both_near⟩
theorem ok_both_near {f : Addr} {fd : FuncData} {k : Nat} (hk : 4 ≤ k) (z : Facts K mg cl) (F : Fun K "both_near" "both_near" s_both_near f fd) (h_Map_check : MtL P w K mg base ⟨K, cl⟩ "Map" "check" 3 g_Map_check) (h_Map_near : MtL P w K mg base ⟨K, cl⟩ "Map" "near" 4 g_Map_near) (h_Map_is_near : MtL P w K mg base ⟨K, cl⟩ "Map" "is_near" 4 g_Map_is_near) :
    FnG P w K mg base (L2.CX P w) (k + 1) f fd ["chart", "x", "y"] (spOf ⟨K, cl⟩ g_both_near) :=
  fn_ok (G' := [.bo, .fz, .fz] ++ [.fz]) (ls := [.fz]) F sc_both_near rfl rfl rfl rfl fun cdv A outer s H E vs hr ok =>
    (sb_cons (ss_expr (px_meth ok (h_Map_check _ (by omega)) hr (so_var (i := 0) rfl (by first | exact .inl rfl | exact .inr (.inl rfl) | exact .inr (.inr rfl))) (sa_cons (so_of (sv_of (sf_lst (sx_cons (k := none) (sv_var (i := 1) rfl (by first | exact .inl rfl | exact .inr (.inl rfl) | exact .inr (.inr rfl)) rfl) (sx_cons (k := none) (sv_var (i := 2) rfl (by first | exact .inl rfl | exact .inr (.inl rfl) | exact .inr (.inr rfl)) rfl) sx_nil))))) sa_nil) rfl rfl rfl))
      (sb_one (ss_ret rfl (sv_of (sf_lc ok (g := (gName 3)) (si_any ok (so_of (px_meth ok (h_Map_near _ (by omega)) hr (so_var (i := 0) rfl (by first | exact .inl rfl | exact .inr (.inl rfl) | exact .inr (.inr rfl))) (sa_cons (so_var (i := 1) rfl (by first | exact .inl rfl | exact .inr (.inl rfl) | exact .inr (.inr rfl))) sa_nil) rfl rfl rfl))) (own := [("post", 3)]) (blkOk_by rfl) (fun s2 H2 c2 cl2 fp2 => (sg_name (ok.blk s2 H2 _ c2 cl2 fp2).nd (i := 3) rfl (by first | exact .inl rfl | exact .inr rfl) rfl (pinOk rfl))) (fun s2 H2 c2 cl2 fp2 => (sts_one (st_val (px_meth (ok.blk s2 H2 _ c2 cl2 fp2) (h_Map_is_near _ (by omega)) hr (so_var (i := 0) rfl (by first | exact .inl rfl | exact .inr (.inl rfl) | exact .inr (.inr rfl))) (sa_cons (so_var (i := 3) rfl (by first | exact .inl rfl | exact .inr (.inl rfl) | exact .inr (.inr rfl))) (sa_cons (so_var (i := 2) rfl (by first | exact .inl rfl | exact .inr (.inl rfl) | exact .inr (.inr rfl))) sa_nil)) rfl rfl rfl)))) (fun s2 H2 c2 cl2 fp2 => (sv_var (i := 3) rfl (by first | exact .inl rfl | exact .inr (.inl rfl) | exact .inr (.inr rfl)) rfl)) (allIn (is := [3]) (by decide)) (by decide) (allFz rfl) (pinOks rfl))))))
abbrev s_law_grown_right : Stmt := topS 40
theorem sc_law_grown_right : FnScope ["_law_source_here", "_law_world", "_law_here", "_law_ties", "_law_one", "_law_other", "_law_before", "_law_later", "_law_is_new", "_law_piece"] ["_law_source_here", "_law_world"] (defScope s_law_grown_right) := ⟨rfl, rfl, rfl, by decide +kernel, rfl, by decide +kernel, by decide +kernel⟩
noncomputable def m_law_grown_right : M Fl := (sSeq (sSetL [2, 3] (xCons (makeM "Map" g_Map___init__ (mCons (oVal (eBin idxD (oB 1) (oVal (eC (.str "posts"))))) (mCons (oVal (eLst (retM []))) (retM [])))) (xCons (eSlice (oVal (callM g_law_mixed (some (0, 0)) (mCons (oB 0) (mCons (oVal (eBin idxD (oB 1) (oVal (eC (.str "ties"))))) (retM []))))) (retM none) (mPart (eC (.int 60)))) (retM []))))
  (sSeq (sFor (mItems (oB 3)) (bTup [(bName 4), (bName 5)]) (sSeq (sAsg 6 (callM g_pieces_of none (mCons (oB 2) (retM []))))
  (sSeq (sAsg 7 (callM g_with_tie none (mCons (oB 2) (mCons (oB 4) (mCons (oB 5) (retM []))))))
  (sSeq (sAsg 8 (eBin neD (oVal (mLc [9] (mItems (oB 6)) (bName 9) (tOf (eBin (inB false) (oB 4) (oB 9))) (eV 9))) (oVal (mLc [9] (mItems (oB 6)) (bName 9) (tOf (eBin (inB false) (oB 5) (oB 9))) (eV 9)))))
  (sSeq (sIf (mOr (tOf (eBin neD (oVal (eBt (fn1 lenS) (mCons (oVal (callM g_pieces_of none (mCons (oB 7) (retM [])))) (retM [])))) (oVal (eBin (intD fun i j => some (i - j)) (oVal (eBt (fn1 lenS) (mCons (oB 6) (retM [])))) (oVal (eBt (fn1 toIntD) (mCons (oB 8) (retM [])))))))) (tOf (mEqO "Map" g_Map___eq__ true (oVal (callM g_without_tie none (mCons (oB 7) (mCons (oB 5) (mCons (oB 4) (retM [])))))) (oB 2)))) (sRet (eC (.bl false))) (retM .nx))
  (sSeq (sIf (mOr (tOf (eBin (inB true) (oB 4) (oVal (callM g_both_near none (mCons (oB 7) (mCons (oB 4) (mCons (oB 5) (retM [])))))))) (tOf (eBin neD (oVal (eBt (fn1 lenS) (mCons (oVal (mMeth "Map" "ties" g_Map_ties none (oB 7) (retM []))) (retM [])))) (oVal (eBin addD (oVal (eBt (fn1 lenS) (mCons (oVal (mMeth "Map" "ties" g_Map_ties none (oB 2) (retM []))) (retM [])))) (oVal (eC (.int 1)))))))) (sRet (eC (.bl false))) (retM .nx))
  (sAsg 2 (eV 7))))))))
  (sRet (mEqO "Map" g_Map___eq__ false (oB 2) (oVal (makeM "Map" g_Map___init__ (mCons (oVal (eBin idxD (oB 1) (oVal (eC (.str "posts"))))) (mCons (oB 3) (retM [])))))))))
noncomputable def g_law_grown_right : Sig := ⟨[.ow 1, .bo], none, runF 10 [.ow 1, .bo] m_law_grown_right⟩
theorem ok_law_grown_right {f : Addr} {fd : FuncData} {k : Nat} (hk : 7 ≤ k) (z : Facts K mg cl) (F : Fun K "_law_grown_right" "_law_grown_right" s_law_grown_right f fd) (h_Map___init__ : MkL P w K mg base ⟨K, cl⟩ "Map" "Map" 4 g_Map___init__) (h_law_mixed : FnL P w K mg base ⟨K, cl⟩ "_law_mixed" 2 g_law_mixed) (h_pieces_of : FnL P w K mg base ⟨K, cl⟩ "pieces_of" 6 g_pieces_of) (h_with_tie : FnL P w K mg base ⟨K, cl⟩ "with_tie" 7 g_with_tie) (h_Map___eq__ : MtL P w K mg base ⟨K, cl⟩ "Map" "__eq__" 1 g_Map___eq__) (h_without_tie : FnL P w K mg base ⟨K, cl⟩ "without_tie" 6 g_without_tie) (h_both_near : FnL P w K mg base ⟨K, cl⟩ "both_near" 5 g_both_near) (h_Map_ties : MtL P w K mg base ⟨K, cl⟩ "Map" "ties" 1 g_Map_ties) :
    FnG P w K mg base (L2.CX P w) (k + 1) f fd ["_law_source_here", "_law_world"] (spOf ⟨K, cl⟩ g_law_grown_right) :=
  fn_ok (G' := [.ow 1, .bo] ++ [.fz, .fz, .fz, .fz, .fz, .fz, .fz, .fz]) (ls := [.fz, .fz, .fz, .fz, .fz, .fz, .fz, .fz]) F sc_law_grown_right rfl rfl rfl rfl fun cdv A outer s H E vs hr ok =>
    (sb_cons (ss_par2 ok (i := 2) (j := 3) rfl rfl (by decide) rfl rfl (sx_cons (k := none) (sv_of (sf_make ok (h_Map___init__ (k - 1) (by omega)) (hr.mono (by omega)) (by rfl) rfl rfl (sa_cons (so_of (sv_idx ok (so_var (i := 1) rfl (by first | exact .inl rfl | exact .inr (.inl rfl) | exact .inr (.inr rfl))) (so_of sv_str) (fun _ _ => rfl))) (sa_cons (so_of (sv_of (sf_lst sx_nil))) sa_nil)) rfl rfl)) (sx_cons (k := none) (sv_of (sf_slice ok (so_of (sv_call ok (h_law_mixed _ (by omega)) hr (by rfl) (sa_cons (so_var (i := 0) rfl (by first | exact .inl rfl | exact .inr (.inl rfl) | exact .inr (.inr rfl))) (sa_cons (so_of (sv_idx ok (so_var (i := 1) rfl (by first | exact .inl rfl | exact .inr (.inl rfl) | exact .inr (.inr rfl))) (so_of sv_str) (fun _ _ => rfl))) sa_nil)) rfl rfl rfl rfl)) sp_none (sp_some sv_int))) sx_nil)) (pinAll rfl) (allLt rfl) rfl)
      (sb_cons (ss_for (passes_of rfl) ok (si_any ok (so_var (i := 3) rfl (by first | exact .inl rfl | exact .inr (.inl rfl) | exact .inr (.inr rfl)))) (sg_tup ok.calm (sgs_cons (sg_name ok.nd (i := 4) rfl (by first | exact .inl rfl | exact .inr rfl) rfl (pinOk rfl)) (sgs_cons (sg_name ok.nd (i := 5) rfl (by first | exact .inl rfl | exact .inr rfl) rfl (pinOk rfl)) sgs_nil)) rfl) (sb_cons (ss_asg ok.nd (i := 6) rfl (by first | exact .inl rfl | exact .inr rfl) rfl (sv_of (sf_call ok (h_pieces_of _ (by omega)) hr (by rfl) (sa_cons (so_var (i := 2) rfl (by first | exact .inl rfl | exact .inr (.inl rfl) | exact .inr (.inr rfl))) sa_nil) rfl rfl rfl rfl)) (pinOk rfl))
      (sb_cons (ss_asg ok.nd (i := 7) rfl (by first | exact .inl rfl | exact .inr rfl) rfl (sv_call ok (h_with_tie _ (by omega)) hr (by rfl) (sa_cons (so_var (i := 2) rfl (by first | exact .inl rfl | exact .inr (.inl rfl) | exact .inr (.inr rfl))) (sa_cons (so_var (i := 4) rfl (by first | exact .inl rfl | exact .inr (.inl rfl) | exact .inr (.inr rfl))) (sa_cons (so_var (i := 5) rfl (by first | exact .inl rfl | exact .inr (.inl rfl) | exact .inr (.inr rfl))) sa_nil))) rfl rfl rfl rfl) (pinOk rfl))
      (sb_cons (ss_asg ok.nd (i := 8) rfl (by first | exact .inl rfl | exact .inr rfl) rfl (sv_of (sf_cmp (op_neD ok.u64) prim_ne (so_of (sv_of (sf_lc ok (g := (gName 9)) (si_any ok (so_var (i := 6) rfl (by first | exact .inl rfl | exact .inr (.inl rfl) | exact .inr (.inr rfl)))) (own := [("_law_piece", 9)]) (blkOk_by rfl) (fun s2 H2 c2 cl2 fp2 => (sg_name (ok.blk s2 H2 _ c2 cl2 fp2).nd (i := 9) rfl (by first | exact .inl rfl | exact .inr rfl) rfl (pinOk rfl))) (fun s2 H2 c2 cl2 fp2 => (sts_one (st_cmp (op_inAll (ok.blk s2 H2 _ c2 cl2 fp2).un) prim_in (so_var (i := 4) rfl (by first | exact .inl rfl | exact .inr (.inl rfl) | exact .inr (.inr rfl))) (so_var (i := 9) rfl (by first | exact .inl rfl | exact .inr (.inl rfl) | exact .inr (.inr rfl))) rfl))) (fun s2 H2 c2 cl2 fp2 => (sv_var (i := 9) rfl (by first | exact .inl rfl | exact .inr (.inl rfl) | exact .inr (.inr rfl)) rfl)) (allIn (is := [9]) (by decide)) (by decide) (allFz rfl) (pinOks rfl)))) (so_of (sv_of (sf_lc ok (g := (gName 9)) (si_any ok (so_var (i := 6) rfl (by first | exact .inl rfl | exact .inr (.inl rfl) | exact .inr (.inr rfl)))) (own := [("_law_piece", 9)]) (blkOk_by rfl) (fun s2 H2 c2 cl2 fp2 => (sg_name (ok.blk s2 H2 _ c2 cl2 fp2).nd (i := 9) rfl (by first | exact .inl rfl | exact .inr rfl) rfl (pinOk rfl))) (fun s2 H2 c2 cl2 fp2 => (sts_one (st_cmp (op_inAll (ok.blk s2 H2 _ c2 cl2 fp2).un) prim_in (so_var (i := 5) rfl (by first | exact .inl rfl | exact .inr (.inl rfl) | exact .inr (.inr rfl))) (so_var (i := 9) rfl (by first | exact .inl rfl | exact .inr (.inl rfl) | exact .inr (.inr rfl))) rfl))) (fun s2 H2 c2 cl2 fp2 => (sv_var (i := 9) rfl (by first | exact .inl rfl | exact .inr (.inl rfl) | exact .inr (.inr rfl)) rfl)) (allIn (is := [9]) (by decide)) (by decide) (allFz rfl) (pinOks rfl)))) (nomark _))) (pinOk rfl))
      (sb_cons (ss_if (st_of_w (sw_or (st_cmp (op_neD ok.u64) prim_ne (so_of (sv_of (sf_callB prim_lenS (call_len) (by rfl) z.len PySem.boot_len (sa_cons (so_of (sv_of (sf_call ok (h_pieces_of _ (by omega)) hr (by rfl) (sa_cons (so_var (i := 7) rfl (by first | exact .inl rfl | exact .inr (.inl rfl) | exact .inr (.inr rfl))) sa_nil) rfl rfl rfl rfl))) sa_nil)))) (so_of (sv_of (sf_bin (op_sub) prim_int0 (so_of (sv_of (sf_callB prim_lenS (call_len) (by rfl) z.len PySem.boot_len (sa_cons (so_var (i := 6) rfl (by first | exact .inl rfl | exact .inr (.inl rfl) | exact .inr (.inr rfl))) sa_nil)))) (so_of (sv_of (sf_callTy prim_toInt (call_int1) (by rfl) z.int (by decide +kernel) (sa_cons (so_var (i := 8) rfl (by first | exact .inl rfl | exact .inr (.inl rfl) | exact .inr (.inr rfl))) sa_nil))))))) (nomark _)) (sw_or1 (st_pc (sc_neK ok (h_Map___eq__ (k - 1) (by omega)) z.ne_Map (hr.mono (by omega)) (so_of (sv_call ok (h_without_tie _ (by omega)) hr (by rfl) (sa_cons (so_var (i := 7) rfl (by first | exact .inl rfl | exact .inr (.inl rfl) | exact .inr (.inr rfl))) (sa_cons (so_var (i := 5) rfl (by first | exact .inl rfl | exact .inr (.inl rfl) | exact .inr (.inr rfl))) (sa_cons (so_var (i := 4) rfl (by first | exact .inl rfl | exact .inr (.inl rfl) | exact .inr (.inr rfl))) sa_nil))) rfl rfl rfl rfl)) (so_var (i := 2) rfl (by first | exact .inl rfl | exact .inr (.inl rfl) | exact .inr (.inr rfl))) rfl rfl rfl))))) (sb_one (ss_ret rfl sv_bl)) sb_nil)
      (sb_cons (ss_if (st_of_w (sw_or (st_cmp (op_notInAll ok.un) prim_in (so_var (i := 4) rfl (by first | exact .inl rfl | exact .inr (.inl rfl) | exact .inr (.inr rfl))) (so_of (sv_call ok (h_both_near _ (by omega)) hr (by rfl) (sa_cons (so_var (i := 7) rfl (by first | exact .inl rfl | exact .inr (.inl rfl) | exact .inr (.inr rfl))) (sa_cons (so_var (i := 4) rfl (by first | exact .inl rfl | exact .inr (.inl rfl) | exact .inr (.inr rfl))) (sa_cons (so_var (i := 5) rfl (by first | exact .inl rfl | exact .inr (.inl rfl) | exact .inr (.inr rfl))) sa_nil))) rfl rfl rfl rfl)) rfl) (sw_or1 (st_cmp (op_neD ok.u64) prim_ne (so_of (sv_of (sf_callB prim_lenS (call_len) (by rfl) z.len PySem.boot_len (sa_cons (so_of (px_meth0 ok (h_Map_ties _ (by omega)) hr (so_var (i := 7) rfl (by first | exact .inl rfl | exact .inr (.inl rfl) | exact .inr (.inr rfl))) rfl rfl rfl)) sa_nil)))) (so_of (sv_of (sf_bin (op_addA) prim_add (so_of (sv_of (sf_callB prim_lenS (call_len) (by rfl) z.len PySem.boot_len (sa_cons (so_of (px_meth0 ok (h_Map_ties _ (by omega)) hr (so_var (i := 2) rfl (by first | exact .inl rfl | exact .inr (.inl rfl) | exact .inr (.inr rfl))) rfl rfl rfl)) sa_nil)))) (so_of sv_int)))) (nomark _))))) (sb_one (ss_ret rfl sv_bl)) sb_nil)
      (sb_one (ss_asg ok.nd (i := 2) rfl (by first | exact .inl rfl | exact .inr rfl) rfl (sv_var (i := 7) rfl (by first | exact .inl rfl | exact .inr (.inl rfl) | exact .inr (.inr rfl)) rfl) (pinOk rfl)))))))))
      (sb_one (ss_ret rfl (sv_pc (sc_eqO ok (h_Map___eq__ _ (by omega)) hr (so_var (i := 2) rfl (by first | exact .inl rfl | exact .inr (.inl rfl) | exact .inr (.inr rfl))) (so_of (sv_of (sf_make ok (h_Map___init__ (k - 1) (by omega)) (hr.mono (by omega)) (by rfl) rfl rfl (sa_cons (so_of (sv_idx ok (so_var (i := 1) rfl (by first | exact .inl rfl | exact .inr (.inl rfl) | exact .inr (.inr rfl))) (so_of sv_str) (fun _ _ => rfl))) (sa_cons (so_var (i := 3) rfl (by first | exact .inl rfl | exact .inr (.inl rfl) | exact .inr (.inr rfl))) sa_nil)) rfl rfl))) rfl rfl rfl))))))
abbrev s_law_shrunk_right : Stmt := topS 41
theorem sc_law_shrunk_right : FnScope ["_law_source_here", "_law_world", "_law_here", "_law_one", "_law_other", "_law_later"] ["_law_source_here", "_law_world"] (defScope s_law_shrunk_right) := ⟨rfl, rfl, rfl, by decide +kernel, rfl, by decide +kernel, by decide +kernel⟩
noncomputable def m_law_shrunk_right : M Fl := (sSeq (sAsg 2 (makeM "Map" g_Map___init__ (mCons (oVal (eBin idxD (oB 1) (oVal (eC (.str "posts"))))) (mCons (oVal (eSlice (oVal (callM g_law_mixed (some (0, 0)) (mCons (oB 0) (mCons (oVal (eBin idxD (oB 1) (oVal (eC (.str "ties"))))) (retM []))))) (retM none) (mPart (eC (.int 60))))) (retM [])))))
  (sSeq (sFor (mItems (oVal (callM g_law_mixed (some (0, 0)) (mCons (oB 0) (mCons (oVal (mMeth "Map" "ties" g_Map_ties none (oB 2) (retM []))) (retM [])))))) (bTup [(bName 3), (bName 4)]) (sSeq (sAsg 5 (callM g_without_tie none (mCons (oB 2) (mCons (oB 4) (mCons (oB 3) (retM []))))))
  (sSeq (sIf (mOr (tOf (eBin (inB true) (oVal (eBin (intD fun i j => some (i - j)) (oVal (eBt (fn1 lenS) (mCons (oVal (callM g_pieces_of none (mCons (oB 5) (retM [])))) (retM [])))) (oVal (eBt (fn1 lenS) (mCons (oVal (callM g_pieces_of none (mCons (oB 2) (retM [])))) (retM [])))))) (oVal (eTup (xCons (eC (.int 0)) (xCons (eC (.int 1)) (retM []))))))) (tOf (mEqO "Map" g_Map___eq__ true (oVal (callM g_with_tie none (mCons (oB 5) (mCons (oB 3) (mCons (oB 4) (retM [])))))) (oB 2)))) (sRet (eC (.bl false))) (retM .nx))
  (sAsg 2 (eV 5)))))
  (sRet (eAnd (mEqO "Map" g_Map___eq__ false (oB 2) (oVal (makeM "Map" g_Map___init__ (mCons (oVal (eBin idxD (oB 1) (oVal (eC (.str "posts"))))) (mCons (oVal (eLst (retM []))) (retM [])))))) (eBin eqD (oVal (eBt (fn1 lenS) (mCons (oVal (callM g_pieces_of none (mCons (oB 2) (retM [])))) (retM [])))) (oVal (eBt (fn1 lenS) (mCons (oVal (eBin idxD (oB 1) (oVal (eC (.str "posts"))))) (retM [])))))))))
noncomputable def g_law_shrunk_right : Sig := ⟨[.ow 1, .bo], none, runF 6 [.ow 1, .bo] m_law_shrunk_right⟩
theorem ok_law_shrunk_right {f : Addr} {fd : FuncData} {k : Nat} (hk : 7 ≤ k) (z : Facts K mg cl) (F : Fun K "_law_shrunk_right" "_law_shrunk_right" s_law_shrunk_right f fd) (h_Map___init__ : MkL P w K mg base ⟨K, cl⟩ "Map" "Map" 4 g_Map___init__) (h_law_mixed : FnL P w K mg base ⟨K, cl⟩ "_law_mixed" 2 g_law_mixed) (h_Map_ties : MtL P w K mg base ⟨K, cl⟩ "Map" "ties" 1 g_Map_ties) (h_without_tie : FnL P w K mg base ⟨K, cl⟩ "without_tie" 6 g_without_tie) (h_pieces_of : FnL P w K mg base ⟨K, cl⟩ "pieces_of" 6 g_pieces_of) (h_Map___eq__ : MtL P w K mg base ⟨K, cl⟩ "Map" "__eq__" 1 g_Map___eq__) (h_with_tie : FnL P w K mg base ⟨K, cl⟩ "with_tie" 7 g_with_tie) :
    FnG P w K mg base (L2.CX P w) (k + 1) f fd ["_law_source_here", "_law_world"] (spOf ⟨K, cl⟩ g_law_shrunk_right) :=
  fn_ok (G' := [.ow 1, .bo] ++ [.fz, .fz, .fz, .fz]) (ls := [.fz, .fz, .fz, .fz]) F sc_law_shrunk_right rfl rfl rfl rfl fun cdv A outer s H E vs hr ok =>
    (sb_cons (ss_asg ok.nd (i := 2) rfl (by first | exact .inl rfl | exact .inr rfl) rfl (sv_of (sf_make ok (h_Map___init__ (k - 1) (by omega)) (hr.mono (by omega)) (by rfl) rfl rfl (sa_cons (so_of (sv_idx ok (so_var (i := 1) rfl (by first | exact .inl rfl | exact .inr (.inl rfl) | exact .inr (.inr rfl))) (so_of sv_str) (fun _ _ => rfl))) (sa_cons (so_of (sv_of (sf_slice ok (so_of (sv_call ok (h_law_mixed _ (by omega)) hr (by rfl) (sa_cons (so_var (i := 0) rfl (by first | exact .inl rfl | exact .inr (.inl rfl) | exact .inr (.inr rfl))) (sa_cons (so_of (sv_idx ok (so_var (i := 1) rfl (by first | exact .inl rfl | exact .inr (.inl rfl) | exact .inr (.inr rfl))) (so_of sv_str) (fun _ _ => rfl))) sa_nil)) rfl rfl rfl rfl)) sp_none (sp_some sv_int)))) sa_nil)) rfl rfl)) (pinOk rfl))
      (sb_cons (ss_for (passes_of rfl) ok (si_any ok (so_of (sv_call ok (h_law_mixed _ (by omega)) hr (by rfl) (sa_cons (so_var (i := 0) rfl (by first | exact .inl rfl | exact .inr (.inl rfl) | exact .inr (.inr rfl))) (sa_cons (so_of (px_meth0 ok (h_Map_ties _ (by omega)) hr (so_var (i := 2) rfl (by first | exact .inl rfl | exact .inr (.inl rfl) | exact .inr (.inr rfl))) rfl rfl rfl)) sa_nil)) rfl rfl rfl rfl))) (sg_tup ok.calm (sgs_cons (sg_name ok.nd (i := 3) rfl (by first | exact .inl rfl | exact .inr rfl) rfl (pinOk rfl)) (sgs_cons (sg_name ok.nd (i := 4) rfl (by first | exact .inl rfl | exact .inr rfl) rfl (pinOk rfl)) sgs_nil)) rfl) (sb_cons (ss_asg ok.nd (i := 5) rfl (by first | exact .inl rfl | exact .inr rfl) rfl (sv_call ok (h_without_tie _ (by omega)) hr (by rfl) (sa_cons (so_var (i := 2) rfl (by first | exact .inl rfl | exact .inr (.inl rfl) | exact .inr (.inr rfl))) (sa_cons (so_var (i := 4) rfl (by first | exact .inl rfl | exact .inr (.inl rfl) | exact .inr (.inr rfl))) (sa_cons (so_var (i := 3) rfl (by first | exact .inl rfl | exact .inr (.inl rfl) | exact .inr (.inr rfl))) sa_nil))) rfl rfl rfl rfl) (pinOk rfl))
      (sb_cons (ss_if (st_of_w (sw_or (st_cmp (op_notInAll ok.un) prim_in (so_of (sv_of (sf_bin (op_sub) prim_int0 (so_of (sv_of (sf_callB prim_lenS (call_len) (by rfl) z.len PySem.boot_len (sa_cons (so_of (sv_of (sf_call ok (h_pieces_of _ (by omega)) hr (by rfl) (sa_cons (so_var (i := 5) rfl (by first | exact .inl rfl | exact .inr (.inl rfl) | exact .inr (.inr rfl))) sa_nil) rfl rfl rfl rfl))) sa_nil)))) (so_of (sv_of (sf_callB prim_lenS (call_len) (by rfl) z.len PySem.boot_len (sa_cons (so_of (sv_of (sf_call ok (h_pieces_of _ (by omega)) hr (by rfl) (sa_cons (so_var (i := 2) rfl (by first | exact .inl rfl | exact .inr (.inl rfl) | exact .inr (.inr rfl))) sa_nil) rfl rfl rfl rfl))) sa_nil))))))) (so_of (sv_of (sf_tup (sx_cons (k := none) sv_int (sx_cons (k := none) sv_int sx_nil))))) rfl) (sw_or1 (st_pc (sc_neK ok (h_Map___eq__ (k - 1) (by omega)) z.ne_Map (hr.mono (by omega)) (so_of (sv_call ok (h_with_tie _ (by omega)) hr (by rfl) (sa_cons (so_var (i := 5) rfl (by first | exact .inl rfl | exact .inr (.inl rfl) | exact .inr (.inr rfl))) (sa_cons (so_var (i := 3) rfl (by first | exact .inl rfl | exact .inr (.inl rfl) | exact .inr (.inr rfl))) (sa_cons (so_var (i := 4) rfl (by first | exact .inl rfl | exact .inr (.inl rfl) | exact .inr (.inr rfl))) sa_nil))) rfl rfl rfl rfl)) (so_var (i := 2) rfl (by first | exact .inl rfl | exact .inr (.inl rfl) | exact .inr (.inr rfl))) rfl rfl rfl))))) (sb_one (ss_ret rfl sv_bl)) sb_nil)
      (sb_one (ss_asg ok.nd (i := 2) rfl (by first | exact .inl rfl | exact .inr rfl) rfl (sv_var (i := 5) rfl (by first | exact .inl rfl | exact .inr (.inl rfl) | exact .inr (.inr rfl)) rfl) (pinOk rfl))))))
      (sb_one (ss_ret rfl (sv_and ok (sv_pc (sc_eqO ok (h_Map___eq__ _ (by omega)) hr (so_var (i := 2) rfl (by first | exact .inl rfl | exact .inr (.inl rfl) | exact .inr (.inr rfl))) (so_of (sv_of (sf_make ok (h_Map___init__ (k - 1) (by omega)) (hr.mono (by omega)) (by rfl) rfl rfl (sa_cons (so_of (sv_idx ok (so_var (i := 1) rfl (by first | exact .inl rfl | exact .inr (.inl rfl) | exact .inr (.inr rfl))) (so_of sv_str) (fun _ _ => rfl))) (sa_cons (so_of (sv_of (sf_lst sx_nil))) sa_nil)) rfl rfl))) rfl rfl rfl)) (sv_one (sv_of (sf_cmp (op_eqD ok.u64) prim_eq (so_of (sv_of (sf_callB prim_lenS (call_len) (by rfl) z.len PySem.boot_len (sa_cons (so_of (sv_of (sf_call ok (h_pieces_of _ (by omega)) hr (by rfl) (sa_cons (so_var (i := 2) rfl (by first | exact .inl rfl | exact .inr (.inl rfl) | exact .inr (.inr rfl))) sa_nil) rfl rfl rfl rfl))) sa_nil)))) (so_of (sv_of (sf_callB prim_lenS (call_len) (by rfl) z.len PySem.boot_len (sa_cons (so_of (sv_idx ok (so_var (i := 1) rfl (by first | exact .inl rfl | exact .inr (.inl rfl) | exact .inr (.inr rfl))) (so_of sv_str) (fun _ _ => rfl))) sa_nil)))) (nomark _)))))))))
abbrev s_law : Stmt := topS 42
theorem sc_law : FnScope ["_law_script", "_law_source_here", "_law_turn", "_law_world", "_law_piece", "_law_some", "_law_less", "_law_made_here", "_law_whole", "_law_tie"] ["_law_script"] (defScope s_law) := ⟨rfl, rfl, rfl, by decide +kernel, rfl, by decide +kernel, by decide +kernel⟩
noncomputable def m_law : M Fl := (sSeq (sAsg 1 (callM g_law_source none (mCons (oB 0) (retM []))))
  (sSeq (sFor (mRange1 (xCons (eC (.int 3)) (retM []))) (bName 2) (sSeq (sAsg 3 (callM g_law_drawn_map (some (0, 1)) (mCons (oB 1) (retM []))))
  (sSeq (sIf (mOr (mNot (tOf (callM g_law_grown_right (some (0, 1)) (mCons (oB 1) (mCons (oB 3) (retM [])))))) (mNot (tOf (callM g_law_shrunk_right (some (0, 1)) (mCons (oB 1) (mCons (oB 3) (retM []))))))) (sRet (eC (.bl false))) (retM .nx))
  (sSeq (sSetL [7, 8] (xCons (eBin idxD (oB 3) (oVal (eC (.str "map")))) (xCons (makeM "Map" g_Map___init__ (mCons (oVal (eLst (retM []))) (mCons (oVal (eLst (retM []))) (retM [])))) (retM []))))
  (sSeq (sFor (mItems (oVal (callM g_pieces_of none (mCons (oB 7) (retM []))))) (bName 4) (sAsg 8 (callM g_joined_maps none (mCons (oB 8) (mCons (oVal (callM g_part_map none (mCons (oB 7) (mCons (oVal (eBt (fn1 listD) (mCons (oB 4) (retM [])))) (retM []))))) (retM []))))))
  (sSeq (sIf (mOr (tOf (mEqO "Map" g_Map___eq__ true (oVal (callM g_part_map none (mCons (oB 8) (mCons (oVal (mMeth "Map" "posts" g_Map_posts none (oB 8) (retM []))) (retM []))))) (oB 8))) (tOf (eBin neD (oVal (eBt (fn1 sortSD) (mCons (oVal (mMeth "Map" "posts" g_Map_posts none (oB 8) (retM []))) (retM [])))) (oVal (eBt (fn1 sortSD) (mCons (oVal (eBin idxD (oB 3) (oVal (eC (.str "posts"))))) (retM []))))))) (sRet (eC (.bl false))) (retM .nx))
  (sSeq (sIf (tOf (eBin neD (oVal (mLc [9] (mItems (oVal (mMeth "Map" "ties" g_Map_ties none (oB 7) (retM [])))) (bName 9) (mAnd (tOf (eBin (inB true) (oB 9) (oVal (mMeth "Map" "ties" g_Map_ties none (oB 8) (retM []))))) (tOf (eBin (inB true) (oVal (eUn revD (oB 9))) (oVal (mMeth "Map" "ties" g_Map_ties none (oB 8) (retM [])))))) (eV 9))) (oVal (eLst (retM []))))) (sRet (eC (.bl false))) (retM .nx))
  (sSeq (sIf (mOr (tOf (mEqO "Map" g_Map___eq__ true (oVal (makeM "Map" g_Map___init__ (mCons (oVal (eBin idxD (oB 3) (oVal (eC (.str "posts"))))) (mCons (oVal (mMeth "Map" "ties" g_Map_ties none (oB 8) (retM []))) (retM []))))) (oB 7))) (tOf (eBin neD (oVal (eBt (fn1 lenS) (mCons (oVal (mMeth "Map" "ties" g_Map_ties none (oB 8) (retM []))) (retM [])))) (oVal (eBt (fn1 lenS) (mCons (oVal (mMeth "Map" "ties" g_Map_ties none (oB 7) (retM []))) (retM []))))))) (sRet (eC (.bl false))) (retM .nx))
  (sSeq (sAsg 5 (callM g_law_some_of (some (0, 1)) (mCons (oB 1) (mCons (oVal (eBin idxD (oB 3) (oVal (eC (.str "posts"))))) (retM [])))))
  (sSeq (sAsg 6 (callM g_map_without none (mCons (oB 7) (mCons (oB 5) (retM [])))))
  (sIf (tOf (eBin neD (oVal (mLc [9] (mItems (oVal (mMeth "Map" "ties" g_Map_ties none (oB 7) (retM [])))) (bName 9) (mAnd (tOf (eBin (inB true) (oVal (eBin idxD (oB 9) (oVal (eC (.int 0))))) (oB 5))) (tOf (eBin (inB true) (oVal (eBin idxD (oB 9) (oVal (eC (.int 1))))) (oB 5)))) (eV 9))) (oVal (mMeth "Map" "ties" g_Map_ties none (oB 6) (retM []))))) (sRet (eC (.bl false))) (retM .nx))))))))))))
  (sRet (eC (.bl true)))))
noncomputable def g_law : Sig := ⟨[.bo], none, runF 10 [.bo] m_law⟩
theorem ok_law {f : Addr} {fd : FuncData} {k : Nat} (hk : 8 ≤ k) (z : Facts K mg cl) (F : Fun K "law" "law" s_law f fd) (h_law_source : FnL P w K mg base ⟨K, cl⟩ "_law_source" 1 g_law_source) (h_law_drawn_map : FnL P w K mg base ⟨K, cl⟩ "_law_drawn_map" 8 g_law_drawn_map) (h_law_grown_right : FnL P w K mg base ⟨K, cl⟩ "_law_grown_right" 8 g_law_grown_right) (h_law_shrunk_right : FnL P w K mg base ⟨K, cl⟩ "_law_shrunk_right" 8 g_law_shrunk_right) (h_Map___init__ : MkL P w K mg base ⟨K, cl⟩ "Map" "Map" 4 g_Map___init__) (h_pieces_of : FnL P w K mg base ⟨K, cl⟩ "pieces_of" 6 g_pieces_of) (h_joined_maps : FnL P w K mg base ⟨K, cl⟩ "joined_maps" 6 g_joined_maps) (h_part_map : FnL P w K mg base ⟨K, cl⟩ "part_map" 6 g_part_map) (h_Map___eq__ : MtL P w K mg base ⟨K, cl⟩ "Map" "__eq__" 1 g_Map___eq__) (h_Map_posts : MtL P w K mg base ⟨K, cl⟩ "Map" "posts" 1 g_Map_posts) (h_Map_ties : MtL P w K mg base ⟨K, cl⟩ "Map" "ties" 1 g_Map_ties) (h_law_some_of : FnL P w K mg base ⟨K, cl⟩ "_law_some_of" 2 g_law_some_of) (h_map_without : FnL P w K mg base ⟨K, cl⟩ "map_without" 7 g_map_without) :
    FnG P w K mg base (L2.CX P w) (k + 1) f fd ["_law_script"] (spOf ⟨K, cl⟩ g_law) :=
  fn_ok (G' := [.bo] ++ [.ow 1, .fz, .fz, .fz, .fz, .fz, .fz, .fz, .fz]) (ls := [.ow 1, .fz, .fz, .fz, .fz, .fz, .fz, .fz, .fz]) F sc_law rfl rfl rfl rfl fun cdv A outer s H E vs hr ok =>
    (sb_cons (ss_asgF ok.nd (i := 1) (k := 1) rfl (by first | exact .inl rfl | exact .inr rfl) rfl (sf_call ok (h_law_source _ (by omega)) hr (by rfl) (sa_cons (so_var (i := 0) rfl (by first | exact .inl rfl | exact .inr (.inl rfl) | exact .inr (.inr rfl))) sa_nil) rfl rfl rfl rfl) (pinOk rfl))
      (sb_cons (ss_for (passes_of rfl) ok (si_range1 (by rfl) z.range (sx_cons (k := none) sv_int sx_nil)) (sg_name ok.nd (i := 2) rfl (by first | exact .inl rfl | exact .inr rfl) rfl (pinOk rfl)) (sb_cons (ss_asg ok.nd (i := 3) rfl (by first | exact .inl rfl | exact .inr rfl) rfl (sv_call ok (h_law_drawn_map _ (by omega)) hr (by rfl) (sa_cons (so_var (i := 1) rfl (by first | exact .inl rfl | exact .inr (.inl rfl) | exact .inr (.inr rfl))) sa_nil) rfl rfl rfl rfl) (pinOk rfl))
      (sb_cons (ss_if (st_of_w (sw_or (st_not (st_val (sv_call ok (h_law_grown_right _ (by omega)) hr (by rfl) (sa_cons (so_var (i := 1) rfl (by first | exact .inl rfl | exact .inr (.inl rfl) | exact .inr (.inr rfl))) (sa_cons (so_var (i := 3) rfl (by first | exact .inl rfl | exact .inr (.inl rfl) | exact .inr (.inr rfl))) sa_nil)) rfl rfl rfl rfl))) (sw_or1 (st_not (st_val (sv_call ok (h_law_shrunk_right _ (by omega)) hr (by rfl) (sa_cons (so_var (i := 1) rfl (by first | exact .inl rfl | exact .inr (.inl rfl) | exact .inr (.inr rfl))) (sa_cons (so_var (i := 3) rfl (by first | exact .inl rfl | exact .inr (.inl rfl) | exact .inr (.inr rfl))) sa_nil)) rfl rfl rfl rfl)))))) (sb_one (ss_ret rfl sv_bl)) sb_nil)
      (sb_cons (ss_parN (is := [7, 8]) ok (PNames.cons (i := 7) rfl (by first | exact .inl rfl | exact .inr rfl) (PNames.cons (i := 8) rfl (by first | exact .inl rfl | exact .inr rfl) PNames.nil)) (sx_cons (k := none) (sv_idx ok (so_var (i := 3) rfl (by first | exact .inl rfl | exact .inr (.inl rfl) | exact .inr (.inr rfl))) (so_of sv_str) (fun _ _ => rfl)) (sx_cons (k := none) (sv_of (sf_make ok (h_Map___init__ (k - 1) (by omega)) (hr.mono (by omega)) (by rfl) rfl rfl (sa_cons (so_of (sv_of (sf_lst sx_nil))) (sa_cons (so_of (sv_of (sf_lst sx_nil))) sa_nil)) rfl rfl)) sx_nil)) (pinAll rfl) (allLt rfl) rfl (by decide))
      (sb_cons (ss_for (passes_of rfl) ok (si_any ok (so_of (sv_of (sf_call ok (h_pieces_of _ (by omega)) hr (by rfl) (sa_cons (so_var (i := 7) rfl (by first | exact .inl rfl | exact .inr (.inl rfl) | exact .inr (.inr rfl))) sa_nil) rfl rfl rfl rfl)))) (sg_name ok.nd (i := 4) rfl (by first | exact .inl rfl | exact .inr rfl) rfl (pinOk rfl)) (sb_one (ss_asg ok.nd (i := 8) rfl (by first | exact .inl rfl | exact .inr rfl) rfl (sv_call ok (h_joined_maps _ (by omega)) hr (by rfl) (sa_cons (so_var (i := 8) rfl (by first | exact .inl rfl | exact .inr (.inl rfl) | exact .inr (.inr rfl))) (sa_cons (so_of (sv_call ok (h_part_map _ (by omega)) hr (by rfl) (sa_cons (so_var (i := 7) rfl (by first | exact .inl rfl | exact .inr (.inl rfl) | exact .inr (.inr rfl))) (sa_cons (so_of (sv_of (sf_callTy prim_list (call_list_of) (by rfl) z.list (by decide +kernel) (sa_cons (so_var (i := 4) rfl (by first | exact .inl rfl | exact .inr (.inl rfl) | exact .inr (.inr rfl))) sa_nil)))) sa_nil)) rfl rfl rfl rfl)) sa_nil)) rfl rfl rfl rfl) (pinOk rfl))))
      (sb_cons (ss_if (st_of_w (sw_or (st_pc (sc_neK ok (h_Map___eq__ (k - 1) (by omega)) z.ne_Map (hr.mono (by omega)) (so_of (sv_call ok (h_part_map _ (by omega)) hr (by rfl) (sa_cons (so_var (i := 8) rfl (by first | exact .inl rfl | exact .inr (.inl rfl) | exact .inr (.inr rfl))) (sa_cons (so_of (sv_of (px_meth0 ok (h_Map_posts _ (by omega)) hr (so_var (i := 8) rfl (by first | exact .inl rfl | exact .inr (.inl rfl) | exact .inr (.inr rfl))) rfl rfl rfl))) sa_nil)) rfl rfl rfl rfl)) (so_var (i := 8) rfl (by first | exact .inl rfl | exact .inr (.inl rfl) | exact .inr (.inr rfl))) rfl rfl rfl)) (sw_or1 (st_cmp (op_neD ok.u64) prim_ne (so_of (sv_of (sf_callB prim_sortS (cr_sortSA) (by rfl) z.sorted (by decide +kernel) (sa_cons (so_of (sv_of (px_meth0 ok (h_Map_posts _ (by omega)) hr (so_var (i := 8) rfl (by first | exact .inl rfl | exact .inr (.inl rfl) | exact .inr (.inr rfl))) rfl rfl rfl))) sa_nil)))) (so_of (sv_of (sf_callB prim_sortS (cr_sortSA) (by rfl) z.sorted (by decide +kernel) (sa_cons (so_of (sv_idx ok (so_var (i := 3) rfl (by first | exact .inl rfl | exact .inr (.inl rfl) | exact .inr (.inr rfl))) (so_of sv_str) (fun _ _ => rfl))) sa_nil)))) (nomark _))))) (sb_one (ss_ret rfl sv_bl)) sb_nil)
      (sb_cons (ss_if (st_cmp (op_neD ok.u64) prim_ne (so_of (sv_of (sf_lc ok (g := (gName 9)) (si_any ok (so_of (px_meth0 ok (h_Map_ties _ (by omega)) hr (so_var (i := 7) rfl (by first | exact .inl rfl | exact .inr (.inl rfl) | exact .inr (.inr rfl))) rfl rfl rfl))) (own := [("_law_tie", 9)]) (blkOk_by rfl) (fun s2 H2 c2 cl2 fp2 => (sg_name (ok.blk s2 H2 _ c2 cl2 fp2).nd (i := 9) rfl (by first | exact .inl rfl | exact .inr rfl) rfl (pinOk rfl))) (fun s2 H2 c2 cl2 fp2 => (sts_one (st_of_w (sw_and (st_cmp (op_notInAll (ok.blk s2 H2 _ c2 cl2 fp2).un) prim_in (so_var (i := 9) rfl (by first | exact .inl rfl | exact .inr (.inl rfl) | exact .inr (.inr rfl))) (so_of (px_meth0 (ok.blk s2 H2 _ c2 cl2 fp2) (h_Map_ties _ (by omega)) hr (so_var (i := 8) rfl (by first | exact .inl rfl | exact .inr (.inl rfl) | exact .inr (.inr rfl))) rfl rfl rfl)) rfl) (sw_and1 (st_cmp (op_notInAll (ok.blk s2 H2 _ c2 cl2 fp2).un) prim_in (so_of (sv_of (sf_rev (ok.blk s2 H2 _ c2 cl2 fp2) (so_var (i := 9) rfl (by first | exact .inl rfl | exact .inr (.inl rfl) | exact .inr (.inr rfl)))))) (so_of (px_meth0 (ok.blk s2 H2 _ c2 cl2 fp2) (h_Map_ties _ (by omega)) hr (so_var (i := 8) rfl (by first | exact .inl rfl | exact .inr (.inl rfl) | exact .inr (.inr rfl))) rfl rfl rfl)) rfl)))))) (fun s2 H2 c2 cl2 fp2 => (sv_var (i := 9) rfl (by first | exact .inl rfl | exact .inr (.inl rfl) | exact .inr (.inr rfl)) rfl)) (allIn (is := [9]) (by decide)) (by decide) (allFz rfl) (pinOks rfl)))) (so_of (sv_of (sf_lst sx_nil))) (nomark _)) (sb_one (ss_ret rfl sv_bl)) sb_nil)
      (sb_cons (ss_if (st_of_w (sw_or (st_pc (sc_neK ok (h_Map___eq__ (k - 1) (by omega)) z.ne_Map (hr.mono (by omega)) (so_of (sv_of (sf_make ok (h_Map___init__ (k - 1) (by omega)) (hr.mono (by omega)) (by rfl) rfl rfl (sa_cons (so_of (sv_idx ok (so_var (i := 3) rfl (by first | exact .inl rfl | exact .inr (.inl rfl) | exact .inr (.inr rfl))) (so_of sv_str) (fun _ _ => rfl))) (sa_cons (so_of (px_meth0 ok (h_Map_ties _ (by omega)) hr (so_var (i := 8) rfl (by first | exact .inl rfl | exact .inr (.inl rfl) | exact .inr (.inr rfl))) rfl rfl rfl)) sa_nil)) rfl rfl))) (so_var (i := 7) rfl (by first | exact .inl rfl | exact .inr (.inl rfl) | exact .inr (.inr rfl))) rfl rfl rfl)) (sw_or1 (st_cmp (op_neD ok.u64) prim_ne (so_of (sv_of (sf_callB prim_lenS (call_len) (by rfl) z.len PySem.boot_len (sa_cons (so_of (px_meth0 ok (h_Map_ties _ (by omega)) hr (so_var (i := 8) rfl (by first | exact .inl rfl | exact .inr (.inl rfl) | exact .inr (.inr rfl))) rfl rfl rfl)) sa_nil)))) (so_of (sv_of (sf_callB prim_lenS (call_len) (by rfl) z.len PySem.boot_len (sa_cons (so_of (px_meth0 ok (h_Map_ties _ (by omega)) hr (so_var (i := 7) rfl (by first | exact .inl rfl | exact .inr (.inl rfl) | exact .inr (.inr rfl))) rfl rfl rfl)) sa_nil)))) (nomark _))))) (sb_one (ss_ret rfl sv_bl)) sb_nil)
      (sb_cons (ss_asg ok.nd (i := 5) rfl (by first | exact .inl rfl | exact .inr rfl) rfl (sv_call ok (h_law_some_of _ (by omega)) hr (by rfl) (sa_cons (so_var (i := 1) rfl (by first | exact .inl rfl | exact .inr (.inl rfl) | exact .inr (.inr rfl))) (sa_cons (so_of (sv_idx ok (so_var (i := 3) rfl (by first | exact .inl rfl | exact .inr (.inl rfl) | exact .inr (.inr rfl))) (so_of sv_str) (fun _ _ => rfl))) sa_nil)) rfl rfl rfl rfl) (pinOk rfl))
      (sb_cons (ss_asg ok.nd (i := 6) rfl (by first | exact .inl rfl | exact .inr rfl) rfl (sv_call ok (h_map_without _ (by omega)) hr (by rfl) (sa_cons (so_var (i := 7) rfl (by first | exact .inl rfl | exact .inr (.inl rfl) | exact .inr (.inr rfl))) (sa_cons (so_var (i := 5) rfl (by first | exact .inl rfl | exact .inr (.inl rfl) | exact .inr (.inr rfl))) sa_nil)) rfl rfl rfl rfl) (pinOk rfl))
      (sb_one (ss_if (st_cmp (op_neD ok.u64) prim_ne (so_of (sv_of (sf_lc ok (g := (gName 9)) (si_any ok (so_of (px_meth0 ok (h_Map_ties _ (by omega)) hr (so_var (i := 7) rfl (by first | exact .inl rfl | exact .inr (.inl rfl) | exact .inr (.inr rfl))) rfl rfl rfl))) (own := [("_law_tie", 9)]) (blkOk_by rfl) (fun s2 H2 c2 cl2 fp2 => (sg_name (ok.blk s2 H2 _ c2 cl2 fp2).nd (i := 9) rfl (by first | exact .inl rfl | exact .inr rfl) rfl (pinOk rfl))) (fun s2 H2 c2 cl2 fp2 => (sts_one (st_of_w (sw_and (st_cmp (op_notInAll (ok.blk s2 H2 _ c2 cl2 fp2).un) prim_in (so_of (sv_idx (ok.blk s2 H2 _ c2 cl2 fp2) (so_var (i := 9) rfl (by first | exact .inl rfl | exact .inr (.inl rfl) | exact .inr (.inr rfl))) (so_of sv_int) (fun _ _ => rfl))) (so_var (i := 5) rfl (by first | exact .inl rfl | exact .inr (.inl rfl) | exact .inr (.inr rfl))) rfl) (sw_and1 (st_cmp (op_notInAll (ok.blk s2 H2 _ c2 cl2 fp2).un) prim_in (so_of (sv_idx (ok.blk s2 H2 _ c2 cl2 fp2) (so_var (i := 9) rfl (by first | exact .inl rfl | exact .inr (.inl rfl) | exact .inr (.inr rfl))) (so_of sv_int) (fun _ _ => rfl))) (so_var (i := 5) rfl (by first | exact .inl rfl | exact .inr (.inl rfl) | exact .inr (.inr rfl))) rfl)))))) (fun s2 H2 c2 cl2 fp2 => (sv_var (i := 9) rfl (by first | exact .inl rfl | exact .inr (.inl rfl) | exact .inr (.inr rfl)) rfl)) (allIn (is := [9]) (by decide)) (by decide) (allFz rfl) (pinOks rfl)))) (so_of (px_meth0 ok (h_Map_ties _ (by omega)) hr (so_var (i := 6) rfl (by first | exact .inl rfl | exact .inr (.inl rfl) | exact .inr (.inr rfl))) rfl rfl rfl)) (nomark _)) (sb_one (ss_ret rfl sv_bl)) sb_nil))))))))))))
      (sb_one (ss_ret rfl sv_bl))))
end
end Lw
end
section
set_option autoImplicit false
set_option Elab.async false
set_option linter.all false
set_option maxRecDepth 100000
set_option maxHeartbeats 4000000
namespace Lw
open PySem L2 DM
/-! ### the source -/
def srcK : List Key := [Sum.inr "cells", Sum.inr "left", Sum.inr "mixed", Sum.inr "turn"]
def srcD (c : List Int) (l m t : Int) : D := .dic srcK [.lst (c.map .int), .int l, .int m, .int t]
theorem ent_c {c : List Int} {l m t : Int} : entD (srcD c l m t) (.str "cells") = some (0, .lst (c.map .int)) := rfl
theorem ent_l {c : List Int} {l m t : Int} : entD (srcD c l m t) (.str "left") = some (1, .int l) := rfl
theorem ent_m {c : List Int} {l m t : Int} : entD (srcD c l m t) (.str "mixed") = some (2, .int m) := rfl
theorem ent_t {c : List Int} {l m t : Int} : entD (srcD c l m t) (.str "turn") = some (3, .int t) := rfl
theorem put_l {c : List Int} {l m t x : Int} : dputD (srcD c l m t) (.str "left") (.int x) = some (srcD c x m t) := rfl
theorem put_t {c : List Int} {l m t x : Int} : dputD (srcD c l m t) (.str "turn") (.int x) = some (srcD c l m x) := rfl
theorem set_c {c c' : List Int} {l m t : Int} : setEnt 0 (.lst (c'.map .int)) (srcD c l m t) = srcD c' l m t := rfl
abbrev pkC : M Bool := (mAnd (tOf (eBin (cmpD fun i j => decide (j < i)) (oB 1) (oVal (eC (.int 1))))) (mAnd (tOf (eBin (cmpD fun i j => decide (i < j)) (oVal (mEntS 0 (rdC (.str "left")))) (oVal (eC (.int 2))))) (tOf (eBin (cmpD fun i j => decide (j < i)) (oVal (mEntLen 0 (rdC (.str "cells")))) (oVal (eC (.int 0)))))))
abbrev pkB : M Fl := (sDput 0 1 (mEntPop 0 (rdC (.str "cells"))) (eC (.str "left")))
theorem pkC_is {c : List Int} {l m t many : Int} {x y : Option D} : pkC [some (srcD c l m t), some (.int many), x, y] = .ok (decide (1 < many) && (decide (l < 2) && decide (0 < (c.length : Int)))) [some (srcD c l m t), some (.int many), x, y] := by
  by_cases h1 : 1 < many <;> by_cases h2 : l < 2 <;> simp [pkC, mAnd, bindM, retM, tOf, eBin, op2, oB, oVal, eC, resO, cmpD, truB, mEntS, mEntLen, rdC, ent_l, ent_c, scalD, lstD, h1, h2]
theorem pkB_is {c : List Int} {a l m t many : Int} {x y : Option D} : pkB [some (srcD (c ++ [a]) l m t), some (.int many), x, y] = .ok .nx [some (srcD c a m t), some (.int many), x, y] := by
  have e : ((c ++ [a]).map D.int)[((c ++ [a]).map D.int).length - 1]? = some (.int a) := by simp
  have e2 : ((c ++ [a]).map D.int).dropLast = c.map .int := by simp
  simp only [pkB, sDput, bindM, mEntPop, rdC, List.getElem?_cons_zero, Option.join_some, Option.bind_some, ent_c, lstD, e, e2]
  simp [set_c, eC, retM, put_l, scalD]
theorem seq_nx {a b : M Fl} {ρ ρ1 : DEnv} (h : a ρ = .ok .nx ρ1) : sSeq a b ρ = b ρ1 := by simp [sSeq, bindM, h]
theorem seq_rt {a b : M Fl} {ρ ρ1 : DEnv} {d : D} (h : a ρ = .ok (.rt d) ρ1) : sSeq a b ρ = .ok (.rt d) ρ1 := by simp [sSeq, bindM, retM, h]
theorem pk_loop : ∀ (n : Nat) (c : List Int) (l m t many : Int) (x y : Option D), c.length ≤ n → ∃ c' l', whileL pkC pkB (n + 1) [some (srcD c l m t), some (.int many), x, y] = .ok .nx [some (srcD c' l' m t), some (.int many), x, y]
  | n, c, l, m, t, many, x, y, h => by
    unfold whileL
    rw [pkC_is]
    by_cases k : (decide (1 < many) && (decide (l < 2) && decide (0 < (c.length : Int)))) = true
    · rw [k]
      have hc : c ≠ [] := by
        rintro rfl
        simp at k
      obtain ⟨c0, a, rfl⟩ : ∃ c0 a, c = c0 ++ [a] := ⟨c.dropLast, c.getLast hc, (List.dropLast_concat_getLast hc).symm⟩
      simp only [pkB_is]
      cases n with
      | zero => simp at h
      | succ n => exact pk_loop n c0 a m t many x y (by simpa using h)
    · rw [Bool.not_eq_true] at k
      rw [k]
      exact ⟨c, l, rfl⟩
def SrcOk (s : D) : Prop := ∃ c l m t, s = srcD c l m t
theorem pk_while {c : List Int} {l m t many : Int} {x y : Option D} : ∃ c' l', sWhile pkC pkB [some (srcD c l m t), some (.int many), x, y] = .ok .nx [some (srcD c' l' m t), some (.int many), x, y] := by
  obtain ⟨c', l', e⟩ := pk_loop c.length c l m t many x y (Nat.le_refl _)
  exact ⟨c', l', sWhile_of e (by simp)⟩
theorem pick_is {s : D} {many : Int} (hs : SrcOk s) (hm : many < 1073741824) : ∃ s' r, SrcOk s' ∧ 0 ≤ r ∧ r < max 1 many ∧ g_law_pick.m [s, .int many] = .ok (.int r) [some s', none] := by
  obtain ⟨c, l, m, t, rfl⟩ := hs
  obtain ⟨c', l', e⟩ := pk_while (c := c) (l := l) (m := m) (t := t) (many := many) (x := none) (y := none)
  have hmax : (if many > 1 then many else 1) = max 1 many := by omega
  have hpos : 0 < max 1 many := by omega
  have hbig : max 1 many < 1073741824 := by omega
  show ∃ s' r, SrcOk s' ∧ 0 ≤ r ∧ r < max 1 many ∧ finF [.ow 1, .bo] (m_law_pick [some (srcD c l m t), some (.int many), none, none]) = .ok (.int r) [some s', none]
  unfold m_law_pick
  rw [seq_nx (a := sWhile pkC pkB) e]
  rw [seq_nx (ρ1 := [some (srcD c' l' m t), some (.int many), some (.int l'), none]) (by simp [sAsg, bindM, mEntS, rdC, ent_l, scalD])]
  have hmx : (if many > 1 then many else 1) = max 1 many := by omega
  by_cases k : (decide (many < 2) || decide (1 < l')) = true
  · refine ⟨srcD c' (l' / max 1 many) m t, l' % max 1 many, ⟨_, _, _, _, rfl⟩, Int.emod_nonneg _ (by omega), Int.emod_lt_of_pos _ hpos, ?_⟩
    have ec : (mOr (tOf (eBin (cmpD fun i j => decide (i < j)) (oB 1) (oVal (eC (.int 2))))) (tOf (eBin (cmpD fun i j => decide (j < i)) (oB 2) (oVal (eC (.int 1)))))) [some (srcD c' l' m t), some (.int many), some (.int l'), none] = .ok true [some (srcD c' l' m t), some (.int many), some (.int l'), none] := by
      by_cases k1 : many < 2
      · simp [mOr, bindM, retM, tOf, eBin, op2, oB, oVal, eC, resO, cmpD, truB, k1]
      · have k2 : 1 < l' := by simpa [k1] using k
        simp [mOr, bindM, retM, tOf, eBin, op2, oB, oVal, eC, resO, cmpD, truB, k1, k2]
    rw [seq_rt (d := .int (l' % max 1 many)) (ρ1 := [some (srcD c' (l' / max 1 many) m t), some (.int many), some (.int l'), none])]
    · rfl
    · unfold sIf
      simp only [bindM, ec, if_true]
      simp [sSeq, sDput, sRet, bindM, retM, eBin, op2, oB, oVal, eC, resO, intD, divI, modI, eBt, opN, fn2, fn1, maxD, toIntD, mCons, resL, hmx, put_l, scalD, hpos, hbig]
  · have k1 : ¬ many < 2 := fun z => k (by simp [z])
    have k2 : ¬ 1 < l' := fun z => k (by simp [z])
    have hm0 : 0 < many := by omega
    have ec : (mOr (tOf (eBin (cmpD fun i j => decide (i < j)) (oB 1) (oVal (eC (.int 2))))) (tOf (eBin (cmpD fun i j => decide (j < i)) (oB 2) (oVal (eC (.int 1)))))) [some (srcD c' l' m t), some (.int many), some (.int l'), none] = .ok false [some (srcD c' l' m t), some (.int many), some (.int l'), none] := by
      simp [mOr, bindM, retM, tOf, eBin, op2, oB, oVal, eC, resO, cmpD, truB, k1, k2]
    rw [seq_nx (ρ1 := [some (srcD c' l' m t), some (.int many), some (.int l'), none]) (by unfold sIf; simp only [bindM, ec]; simp [retM])]
    rw [seq_nx (ρ1 := [some (srcD c' l' m (t + 1)), some (.int many), some (.int l'), none]) (by
      simp [sDput, bindM, retM, eBin, op2, oVal, eC, resO, addD, mEntS, rdC, ent_t, scalD, put_t])]
    obtain ⟨u, hu0, hu1, hu⟩ : ∃ u : Int, 0 ≤ u ∧ u < 998244353 ∧ u = (m + (t + 1) * 104729) % 998244353 := ⟨_, Int.emod_nonneg _ (by decide), Int.emod_lt_of_pos _ (by decide), rfl⟩
    rw [seq_nx (ρ1 := [some (srcD c' l' m (t + 1)), some (.int many), some (.int l'), some (.int u)]) (by
      simp [sAsg, bindM, retM, eBin, op2, oVal, eC, resO, addD, mulD, mulI, mEntS, rdC, ent_t, ent_m, scalD, intD, modI, eBt, opN, fn1, toIntD, mCons, resL, hu])]
    obtain ⟨v, hv⟩ : ∃ v : Int, v = (u * u + (t + 1) * 17) % 2147483647 := ⟨_, rfl⟩
    rw [seq_nx (ρ1 := [some (srcD c' l' m (t + 1)), some (.int many), some (.int l'), some (.int v)]) (by
      have b1 : -18446744073709551616 < u := by omega
      have b2 : u < 18446744073709551616 := by omega
      simp [sAsg, bindM, retM, eBin, op2, oB, oVal, eC, resO, addD, mulD, mulI, mEntS, rdC, ent_t, ent_m, scalD, intD, modI, eBt, opN, fn1, toIntD, mCons, resL, hv, b1, b2])]
    have hmx2 : max 1 many = many := by omega
    refine ⟨srcD c' l' m (t + 1), v / 16 % many, ⟨_, _, _, _, rfl⟩, Int.emod_nonneg _ (by omega), by rw [hmx2]; exact Int.emod_lt_of_pos _ hm0, ?_⟩
    simp [sRet, bindM, retM, eBin, op2, oB, oVal, eC, resO, intD, divI, modI, eBt, opN, fn1, toIntD, mCons, resL, hm0, finF, outsF]
end Lw
end
section
set_option autoImplicit false
set_option Elab.async false
set_option linter.all false
set_option maxRecDepth 100000
set_option maxHeartbeats 4000000
namespace Lw
open PySem L2 DM
theorem src_for : ∀ (ns : List Int) (s : D) (m : Int) (x : Option D), ∃ m' x', forL (bName 2) (sAsg 1 (eBin (intD modI) (oVal (eBt (fn1 toIntD) (mCons (oVal (eBin addD (oVal (eBin addD (oVal (eBin mulD (oB 1) (oVal (eC (.int 69069))))) (oVal (eBin mulD (oB 2) (oVal (eC (.int 31))))))) (oVal (eC (.int 5))))) (retM [])))) (oVal (eC (.int 2147483629))))) (ns.map .int) [some s, some (.int m), x] = .ok .nx [some s, some (.int m'), x']
  | [], s, m, x => ⟨m, x, rfl⟩
  | n :: ns, s, m, x => by
    obtain ⟨m', x', e⟩ := src_for ns s ((m * 69069 + n * 31 + 5) % 2147483629) (some (.int n))
    refine ⟨m', x', ?_⟩
    rw [List.map_cons, forL]
    simp only [bName, List.set_cons_succ, List.set_cons_zero]
    rw [show (sAsg 1 (eBin (intD modI) (oVal (eBt (fn1 toIntD) (mCons (oVal (eBin addD (oVal (eBin addD (oVal (eBin mulD (oB 1) (oVal (eC (.int 69069))))) (oVal (eBin mulD (oB 2) (oVal (eC (.int 31))))))) (oVal (eC (.int 5))))) (retM [])))) (oVal (eC (.int 2147483629))))) [some s, some (.int m), some (.int n)] = .ok .nx [some s, some (.int ((m * 69069 + n * 31 + 5) % 2147483629)), some (.int n)] by
      simp [sAsg, bindM, retM, eBin, op2, oB, oVal, eC, resO, addD, mulD, mulI, intD, modI, eBt, opN, fn1, toIntD, mCons, resL]]
    exact e
theorem abs_lc : ∀ (ns acc : List Int) (s m x : Option D), lcL [2] (bName 2) (retM true) (eBt (fn1 absD) (mCons (oB 2) (retM []))) (ns.map .int) (acc.map .int) [s, m, none] = .ok ((acc ++ ns.map fun i => if i < 0 then -i else i).map .int) [s, m, none]
  | [], acc, s, m, x => by simp [lcL]
  | n :: ns, acc, s, m, x => by
    have ih := abs_lc ns (acc ++ [if n < 0 then -n else n]) s m x
    rw [List.map_cons, lcL]
    simp [bName, retM, eBt, bindM, mCons, oB, opN, resL, resO, fn1, absD, wipeD] at ih ⊢
    exact ih
theorem source_is (ns : List Int) : ∃ s, SrcOk s ∧ g_law_source.m [.scr ns] = .ok s [none] := by
  obtain ⟨m', x', e⟩ := src_for ns (.scr ns) 11 none
  refine ⟨srcD (ns.map fun i => if i < 0 then -i else i).reverse 1 m' 0, ⟨_, _, _, _, rfl⟩, ?_⟩
  show finF [.bo] (m_law_source [some (.scr ns), none, none]) = _
  unfold m_law_source
  rw [seq_nx (ρ1 := [some (.scr ns), some (.int 11), none]) (by simp [sAsg, bindM, eC, retM])]
  rw [seq_nx (ρ1 := [some (.scr ns), some (.int m'), x']) (by
    unfold sFor
    simp only [bindM, mItems, oB, resO, List.getElem?_cons_zero, Option.join_some, itemsD]
    exact e)]
  have h := abs_lc ns [] (some (.scr ns)) (some (.int m')) none
  have h2 : (eUn revD (oVal (mLc [2] (mItems (oB 0)) (bName 2) (retM true) (eBt (fn1 absD) (mCons (oB 2) (retM [])))))) [some (.scr ns), some (.int m'), x'] = .ok (.lst ((ns.map fun i => if i < 0 then -i else i).reverse.map .int)) [some (.scr ns), some (.int m'), x'] := by
    have h' : lcL [2] (bName 2) (retM true) (eBt (fn1 absD) (mCons (oB 2) (retM []))) (ns.map .int) [] [some (.scr ns), some (.int m'), none] = .ok ((ns.map fun i => if i < 0 then -i else i).map .int) [some (.scr ns), some (.int m'), none] := by simpa using h
    simp only [eUn, oVal, mLc, bindM, mItems, oB, resO, List.getElem?_cons_zero, Option.join_some, itemsD, wipeD, List.set_cons_succ, List.set_cons_zero, h', putD, List.getElem?_cons_succ, retM, op1, revD, List.map_reverse]
  have hk : keysOf [D.str "cells", D.str "left", D.str "mixed", D.str "turn"] = some srcK := rfl
  have hn : srcK.Nodup := by decide
  have step : eDisp (pCons (eC (.str "cells")) (eUn revD (oVal (mLc [2] (mItems (oB 0)) (bName 2) (retM true) (eBt (fn1 absD) (mCons (oB 2) (retM [])))))) (pCons (eC (.str "left")) (mPlain (eC (.int 1))) (pCons (eC (.str "mixed")) (mPlain (eV 1)) (pCons (eC (.str "turn")) (mPlain (eC (.int 0))) (retM []))))) [some (.scr ns), some (.int m'), x'] = .ok (srcD (ns.map fun i => if i < 0 then -i else i).reverse 1 m' 0) [some (.scr ns), some (.int m'), x'] := by
    unfold eDisp pCons
    simp only [bindM, eC, retM, h2, mPlain, pCons, eV, scalD, if_true, List.getElem?_cons_succ, List.getElem?_cons_zero, Option.join_some, List.map_cons, List.map_nil, hk, if_pos hn]
    rfl
  simp only [sRet, bindM, step, retM, finF, outsF]
end Lw
end
section
set_option autoImplicit false
set_option Elab.async false
set_option linter.all false
set_option maxRecDepth 100000
set_option maxHeartbeats 4000000
namespace Lw
open PySem L2 DM
theorem of_is {s : D} {l : List D} (hs : SrcOk s) (h0 : 0 < l.length) (h1 : (l.length : Int) < 1073741824) : ∃ s' d, SrcOk s' ∧ d ∈ l ∧ g_law_of.m [s, .lst l] = .ok d [some s', none] := by
  obtain ⟨s', r, k1, k2, k3, k4⟩ := pick_is hs h1
  have k3' : r < l.length := by omega
  have hr : r.toNat < l.length := by omega
  refine ⟨s', l[r.toNat], k1, List.getElem_mem hr, ?_⟩
  refine run_rt (ρ1 := [some s', some (.lst l)]) (ok_ret (ok_bin (d1 := .lst l) (d2 := .int r) (ok_bor rfl) (ok_val (call_io (ok_cons (ok_bor rfl) (ok_cons (ok_val (ok_bt (ok_cons (ok_bor rfl) ok_nil) rfl rfl)) ok_nil)) rfl k4 rfl)) rfl rfl ?_))
  show atI l r = _
  rw [atI_ofNat k2 k3', List.getElem?_eq_getElem hr]
end Lw
end
section
set_option autoImplicit false
set_option Elab.async false
set_option linter.all false
set_option maxRecDepth 100000
set_option maxHeartbeats 4000000
namespace Lw
open PySem L2 DM
theorem seqIx {r : Int} {n : Nat} (h0 : 0 ≤ r) (h1 : r < n) : seqIndex? r n = some r.toNat := by
  unfold seqIndex?
  simp [show ¬ r < 0 by omega, h0, h1]
noncomputable abbrev mxE : M D := callMut 2 popAtD (xCons (callM g_law_pick (some (0, 0)) (mCons (oB 0) (mCons (oVal (eBt (fn1 lenS) (mCons (oB 2) (retM [])))) (retM [])))) (retM []))
theorem okR_small {n : Nat} (h : n ≤ 100000) : okR 0 (n : Int) = true := by
  unfold okR
  have := sizeLine_eq
  simp only [Bool.and_eq_true, decide_eq_true_eq]
  refine ⟨⟨⟨⟨by decide, by decide⟩, ?_⟩, ?_⟩, ?_⟩
  · exact Int.lt_of_le_of_lt (Int.ofNat_le.mpr h) (by decide)
  · exact Int.le_trans (by decide) (Int.natCast_nonneg n)
  · rw [Int.sub_zero, Int.toNat_natCast, this]; omega
theorem range1_is {m : M (List D)} {ρ ρ1 : DEnv} {j : Nat} (h : m ρ = .ok [.int (j : Int)] ρ1) (k : okR 0 (j : Int) = true) : mRange1 m ρ = .ok (rangeD 0 j) ρ1 := by
  have e : mRange1 m ρ = if okR 0 (j : Int) = true then .ok (rangeD 0 (j : Int).toNat) ρ1 else .bad := by
    unfold mRange1
    simp only [bindM, h]
    rfl
  rw [e, if_pos k]
  rfl
theorem erase_perm {α : Type} : ∀ (l : List α) (i : Nat) (h : i < l.length), (l[i] :: l.eraseIdx i).Perm l
  | x :: l, 0, h => List.Perm.refl _
  | x :: l, i + 1, h => by
    have h' : i < l.length := by simpa using h
    exact (List.Perm.swap x l[i] (l.eraseIdx i)).trans (List.Perm.cons x (erase_perm l i h'))
theorem mix_lc (a : D) (ds : List D) : ∀ (rest acc : List D) (s : D), SrcOk s → ds.length = rest.length → (rest.length : Int) < 1073741824 → ∃ s' l', SrcOk s' ∧ l'.Perm rest ∧ lcL [3] (bName 3) (retM true) mxE ds acc [some s, some a, some (.lst rest), none] = .ok (acc ++ l') [some s', some a, some (.lst []), none] := by
  induction ds with
  | nil =>
    intro rest acc s hs hl hb
    have : rest = [] := List.length_eq_zero_iff.mp hl.symm
    subst this
    exact ⟨s, [], hs, List.Perm.refl _, by simp [lcL]⟩
  | cons d ds ih =>
    intro rest acc s hs hl hb
    obtain ⟨s1, r, k1, k2, k3, k4⟩ := pick_is hs hb
    have hl' : 0 < rest.length := by rw [← hl]; simp
    have k3' : r < rest.length := by omega
    have hr : r.toNat < rest.length := by omega
    have hp : popAtD rest [.int r] = some (rest[r.toNat], rest.eraseIdx r.toNat) := by
      simp [popAtD, seqIx k2 k3', List.getElem?_eq_getElem hr]
    have he : mxE [some s, some a, some (.lst rest), some d] = .ok rest[r.toNat] [some s1, some a, some (.lst (rest.eraseIdx r.toNat)), some d] :=
      mut_is (l0 := rest) (l := rest) (args := [.int r]) (ρ1 := [some s1, some a, some (.lst rest), some d]) rfl (ok_xcons (call_io (ok_cons (ok_bor rfl) (ok_cons (ok_val (ok_bt (ok_cons (ok_bor rfl) ok_nil) rfl rfl)) ok_nil)) rfl k4 rfl) ok_nil) rfl hp
    have hle : (rest.eraseIdx r.toNat).length = rest.length - 1 := List.length_eraseIdx_of_lt hr
    obtain ⟨s2, l2, j1, j2, j3⟩ := ih (rest.eraseIdx r.toNat) (acc ++ [rest[r.toNat]]) s1 k1 (by rw [hle, ← hl]; simp) (by rw [hle]; omega)
    refine ⟨s2, rest[r.toNat] :: l2, j1, ?_, ?_⟩
    · exact (List.Perm.cons _ j2).trans (erase_perm rest r.toNat hr)
    · rw [lcL]
      simp only [bName, List.set_cons_succ, List.set_cons_zero, ok_nil, he, wipeD]
      rw [j3]; simp
theorem mixed_is {s : D} {l : List D} (hs : SrcOk s) (hl : l.length ≤ 100000) : ∃ s' l', SrcOk s' ∧ l'.Perm l ∧ g_law_mixed.m [s, .lst l] = .ok (.lst l') [some s', none] := by
  obtain ⟨s', l', k1, k2, k3⟩ := mix_lc (.lst l) (rangeD 0 l.length) l [] s hs rangeD_len (by omega)
  refine ⟨s', l', k1, k2, ?_⟩
  have hg : g_law_mixed.m = runF 4 [.ow 1, .bo] m_law_mixed := by unfold g_law_mixed; rfl
  rw [hg]
  generalize hM : m_law_mixed = M0
  refine run_is (ρ0 := [some s, some (.lst l), none, none]) (ρ1 := [some s', some (.lst l), some (.lst []), none]) rfl ?_ rfl
  subst hM
  unfold m_law_mixed
  rw [seq_nx (ρ1 := [some s, some (.lst l), some (.lst l), none]) (ok_asg (ok_bt (ok_cons (ok_bor rfl) ok_nil) rfl rfl))]
  refine ok_ret ?_
  have hr : mRange1 (xCons (eBt (fn1 lenS) (mCons (oB 2) (retM []))) (retM [])) [some s, some (.lst l), some (.lst l), none] = .ok (rangeD 0 l.length) [some s, some (.lst l), some (.lst l), none] := by
    have e : xCons (eBt (fn1 lenS) (mCons (oB 2) (retM []))) (retM []) [some s, some (.lst l), some (.lst l), none] = .ok [.int l.length] [some s, some (.lst l), some (.lst l), none] := ok_xcons (ok_bt (ok_cons (ok_bor rfl) ok_nil) rfl rfl) ok_nil
    exact range1_is e (okR_small hl)
  rw [List.nil_append] at k3
  have hw : wipeD [some s, some (.lst l), some (.lst l), none] [3] = [some s, some (.lst l), some (.lst l), none] := rfl
  have h := lc_is (vs := [3]) (b := bName 3) (mt := retM true) (me := mxE) (acc := l') hr (by rw [hw]; exact k3)
  rw [h]
  rfl
end Lw
end
section
set_option autoImplicit false
set_option Elab.async false
set_option linter.all false
set_option maxRecDepth 100000
set_option maxHeartbeats 4000000
namespace Lw
open PySem L2 DM
/-! ### the names -/
/-- the k-th of the drawn words: a letter, two digits that tell it, a tail -/
structure Word1 (z : Str) (u : Nat) : Prop where
  ex : ∃ (a : Nat) (tail : List Nat), z.cps.toList = a :: (48 + u / 10) :: (48 + u % 10) :: tail ∧ (97 ≤ a ∧ a ≤ 122) ∧ (tail = [] ∨ tail = [107] ∨ tail = List.replicate 9 107) ∧ u < 100
theorem Word1.inj {z : Str} {u v : Nat} (h : Word1 z u) (k : Word1 z v) : u = v := by
  obtain ⟨a, t, e, _, _, hu⟩ := h.ex
  obtain ⟨b, s, e', _, _, hv⟩ := k.ex
  rw [e] at e'
  simp only [List.cons.injEq] at e'
  omega
def two (u : Nat) : Str := ⟨#[48 + u / 10, 48 + u % 10]⟩
theorem dig0 : ∀ u : _root_.Fin 100, cutD (Str.ofString (toString (100 + (u.val : Int)))).cps.toList (some 1) none = [48 + u.val / 10, 48 + u.val % 10] := by decide +kernel
theorem dig {u : Nat} (h : u < 100) : sliceD (some 1) none (.str (Str.ofString (toString (100 + (u : Int))))) = some (.str (two u)) := by
  have e : cutD (Str.ofString (toString (100 + (u : Int)))).cps.toList (some 1) none = [48 + u / 10, 48 + u % 10] := dig0 ⟨u, h⟩
  show some (D.str ⟨(cutD (Str.ofString (toString (100 + (u : Int)))).cps.toList (some 1) none).toArray⟩) = _
  rw [e]; rfl
theorem abc0 : ∀ r : _root_.Fin 26, atI (Str.ofString "abcdefghijklmnopqrstuvwxyz").cps.toList (r.val : Int) = some (97 + r.val) := by decide +kernel
theorem abc {r : Int} (h0 : 0 ≤ r) (h1 : r < 26) : idxD (.str "abcdefghijklmnopqrstuvwxyz") (.int r) = some (.str ⟨#[97 + r.toNat]⟩) := by
  obtain ⟨n, rfl⟩ := Int.eq_ofNat_of_zero_le h0
  have e : atI (Str.ofString "abcdefghijklmnopqrstuvwxyz").cps.toList (n : Int) = some (97 + n) := abc0 ⟨n, by omega⟩
  show (atI (Str.ofString "abcdefghijklmnopqrstuvwxyz").cps.toList (n : Int)).map (fun c => D.str ⟨#[c]⟩) = _
  rw [e]; rfl
end Lw
end
section
set_option autoImplicit false
set_option Elab.async false
set_option linter.all false
open PySem L2 DM
local macro_rules
  | `(tactic| decreasing_trivial_pre_omega) => `(tactic| dsimp only [enumL_c, enumL_n])
local macro_rules
  | `(tactic| decreasing_trivial_pre_omega) => `(tactic| ((with_reducible apply isEqT); (fail_if_success (with_reducible apply isOkR)); exact rfl))
local macro_rules
  | `(tactic| decreasing_trivial_pre_omega) => `(tactic| ((with_reducible apply isEqO); (fail_if_success (with_reducible apply isOpIn)); (fail_if_success (with_reducible apply isOpEq)); (fail_if_success (with_reducible apply isOpNe)); exact rfl))
local macro_rules
  | `(tactic| decreasing_trivial_pre_omega) => `(tactic| ((with_reducible apply We.of_eq); with_reducible assumption))
local macro_rules
  | `(tactic| decreasing_trivial_pre_omega) => `(tactic| ((with_reducible refine decide_eq_true ?_); decide))
local macro_rules
  | `(tactic| decreasing_trivial_pre_omega) => `(tactic| ((with_reducible refine mul_isL ?_ ?_); decide; decide))
local macro_rules
  | `(tactic| decreasing_trivial_pre_omega) => `(tactic| ((with_reducible refine mul_is ?_ ?_); decide; decide))
local macro_rules
  | `(tactic| decreasing_trivial_pre_omega) => `(tactic| ((with_reducible refine div_is ?_ ?_); decide; decide))
local macro_rules
  | `(tactic| decreasing_trivial_pre_omega) => `(tactic| ((with_reducible refine mod_is ?_); decide))
local macro_rules
  | `(tactic| decreasing_trivial_pre_omega) => `(tactic| with_reducible exact And.intro rfl rfl)
local macro_rules
  | `(tactic| decreasing_trivial_pre_omega) => `(tactic| with_reducible exact ne_nil (fun _ => rfl))
local macro_rules
  | `(tactic| decreasing_trivial_pre_omega) => `(tactic| with_reducible exact eq_nil (fun _ => rfl))
local macro_rules
  | `(tactic| decreasing_trivial_pre_omega) => `(tactic| with_reducible exact ne_strs)
local macro_rules
  | `(tactic| decreasing_trivial_pre_omega) => `(tactic| with_reducible exact eq_strs)
local macro_rules
  | `(tactic| decreasing_trivial_pre_omega) => `(tactic| with_reducible exact all_flat)
local macro_rules
  | `(tactic| decreasing_trivial_pre_omega) => `(tactic| with_reducible exact idx_hd)
local macro_rules
  | `(tactic| decreasing_trivial_pre_omega) => `(tactic| with_reducible exact idx_cons)
local macro_rules
  | `(tactic| decreasing_trivial_pre_omega) => `(tactic| with_reducible apply fn2_mk)
local macro_rules
  | `(tactic| decreasing_trivial_pre_omega) => `(tactic| with_reducible apply fn1_mk)
local macro_rules
  | `(tactic| decreasing_trivial_pre_omega) => `(tactic| with_reducible exact shal_tstrs)
local macro_rules
  | `(tactic| decreasing_trivial_pre_omega) => `(tactic| with_reducible exact slice_fromN1T)
local macro_rules
  | `(tactic| decreasing_trivial_pre_omega) => `(tactic| with_reducible exact slice_fromN1)
local macro_rules
  | `(tactic| decreasing_trivial_pre_omega) => `(tactic| with_reducible exact slice_fromN)
local macro_rules
  | `(tactic| decreasing_trivial_pre_omega) => `(tactic| with_reducible exact slice_to1N)
local macro_rules
  | `(tactic| decreasing_trivial_pre_omega) => `(tactic| with_reducible exact slice_toN)
local macro_rules
  | `(tactic| decreasing_trivial_pre_omega) => `(tactic| with_reducible exact any_is)
local macro_rules
  | `(tactic| decreasing_trivial_pre_omega) => `(tactic| with_reducible exact all_is)
local macro_rules
  | `(tactic| decreasing_trivial_pre_omega) => `(tactic| with_reducible exact in_prsF)
local macro_rules
  | `(tactic| decreasing_trivial_pre_omega) => `(tactic| with_reducible exact in_tstrsT)
local macro_rules
  | `(tactic| decreasing_trivial_pre_omega) => `(tactic| with_reducible exact in_tstrsF)
local macro_rules
  | `(tactic| decreasing_trivial_pre_omega) => `(tactic| with_reducible exact in_strsT)
local macro_rules
  | `(tactic| decreasing_trivial_pre_omega) => `(tactic| with_reducible exact in_strsF)
local macro_rules
  | `(tactic| decreasing_trivial_pre_omega) => `(tactic| with_reducible exact ne_int')
local macro_rules
  | `(tactic| decreasing_trivial_pre_omega) => `(tactic| with_reducible exact eq_int')
local macro_rules
  | `(tactic| decreasing_trivial_pre_omega) => `(tactic| with_reducible exact ne_bl')
local macro_rules
  | `(tactic| decreasing_trivial_pre_omega) => `(tactic| with_reducible exact eq_bl')
local macro_rules
  | `(tactic| decreasing_trivial_pre_omega) => `(tactic| with_reducible exact ne_str')
local macro_rules
  | `(tactic| decreasing_trivial_pre_omega) => `(tactic| with_reducible exact eq_str')
local macro_rules
  | `(tactic| decreasing_trivial_pre_omega) => `(tactic| ((with_reducible refine okR_lit ?_ ?_) <;> decide))
local macro_rules
  | `(tactic| decreasing_trivial_pre_omega) => `(tactic| with_reducible assumption)
local macro_rules
  | `(tactic| decreasing_trivial_pre_omega) => `(tactic| with_reducible refine LapD.mk ?_)
local macro_rules
  | `(tactic| decreasing_trivial_pre_omega) => `(tactic| with_reducible refine Lap2.mk ?_)
local macro_rules
  | `(tactic| decreasing_trivial_pre_omega) => `(tactic| with_reducible refine Lap.mk ?_)
local macro_rules
  | `(tactic| decreasing_trivial_pre_omega) => `(tactic| with_reducible refine Tr.mk ?_ ?_)
local macro_rules
  | `(tactic| decreasing_trivial_pre_omega) => `(tactic| with_reducible refine W_ret ?_)
local macro_rules
  | `(tactic| decreasing_trivial_pre_omega) => `(tactic| with_reducible refine W_lenSet ?_)
local macro_rules
  | `(tactic| decreasing_trivial_pre_omega) => `(tactic| with_reducible refine W_indexT ?_)
local macro_rules
  | `(tactic| decreasing_trivial_pre_omega) => `(tactic| with_reducible refine W_get ?_)
local macro_rules
  | `(tactic| decreasing_trivial_pre_omega) => `(tactic| with_reducible refine W_tupX ?_)
local macro_rules
  | `(tactic| decreasing_trivial_pre_omega) => `(tactic| with_reducible refine W_tupS ?_)
local macro_rules
  | `(tactic| decreasing_trivial_pre_omega) => `(tactic| with_reducible refine W_lstS ?_)
local macro_rules
  | `(tactic| decreasing_trivial_pre_omega) => `(tactic| with_reducible refine W_star ?_)
local macro_rules
  | `(tactic| decreasing_trivial_pre_omega) => `(tactic| with_reducible refine W_ct ?_)
local macro_rules
  | `(tactic| decreasing_trivial_pre_omega) => `(tactic| with_reducible refine W_bk ?_)
local macro_rules
  | `(tactic| decreasing_trivial_pre_omega) => `(tactic| with_reducible refine W_forN ?_)
local macro_rules
  | `(tactic| decreasing_trivial_pre_omega) => `(tactic| with_reducible refine W_forC ?_)
local macro_rules
  | `(tactic| decreasing_trivial_pre_omega) => `(tactic| with_reducible refine W_for ?_)
local macro_rules
  | `(tactic| decreasing_trivial_pre_omega) => `(tactic| with_reducible refine W_aug ?_)
local macro_rules
  | `(tactic| decreasing_trivial_pre_omega) => `(tactic| with_reducible refine W_put2 ?_)
local macro_rules
  | `(tactic| decreasing_trivial_pre_omega) => `(tactic| with_reducible refine W_fldPut ?_)
local macro_rules
  | `(tactic| decreasing_trivial_pre_omega) => `(tactic| with_reducible refine W_dput ?_)
local macro_rules
  | `(tactic| decreasing_trivial_pre_omega) => `(tactic| with_reducible refine W_asgG ?_)
local macro_rules
  | `(tactic| decreasing_trivial_pre_omega) => `(tactic| with_reducible refine W_unp ?_)
local macro_rules
  | `(tactic| decreasing_trivial_pre_omega) => `(tactic| with_reducible refine W_setL ?_)
local macro_rules
  | `(tactic| decreasing_trivial_pre_omega) => `(tactic| with_reducible refine W_pcons ?_)
local macro_rules
  | `(tactic| decreasing_trivial_pre_omega) => `(tactic| with_reducible refine W_disp ?_)
local macro_rules
  | `(tactic| decreasing_trivial_pre_omega) => `(tactic| with_reducible refine W_index ?_)
local macro_rules
  | `(tactic| decreasing_trivial_pre_omega) => `(tactic| with_reducible refine W_entS ?_)
local macro_rules
  | `(tactic| decreasing_trivial_pre_omega) => `(tactic| ((with_reducible apply W_mov); exact rfl))
local macro_rules
  | `(tactic| decreasing_trivial_pre_omega) => `(tactic| with_reducible refine W_mut ?_)
local macro_rules
  | `(tactic| decreasing_trivial_pre_omega) => `(tactic| with_reducible refine W_zipO ?_)
local macro_rules
  | `(tactic| decreasing_trivial_pre_omega) => `(tactic| with_reducible refine W_own ?_)
local macro_rules
  | `(tactic| decreasing_trivial_pre_omega) => `(tactic| with_reducible refine W_zip ?_)
local macro_rules
  | `(tactic| decreasing_trivial_pre_omega) => `(tactic| with_reducible refine W_enumA ?_)
local macro_rules
  | `(tactic| decreasing_trivial_pre_omega) => `(tactic| with_reducible refine W_range2 ?_)
local macro_rules
  | `(tactic| decreasing_trivial_pre_omega) => `(tactic| with_reducible refine W_range1 ?_)
local macro_rules
  | `(tactic| decreasing_trivial_pre_omega) => `(tactic| with_reducible refine W_itemsV ?_)
local macro_rules
  | `(tactic| decreasing_trivial_pre_omega) => `(tactic| with_reducible refine W_rng ?_)
local macro_rules
  | `(tactic| decreasing_trivial_pre_omega) => `(tactic| with_reducible refine W_slice ?_)
local macro_rules
  | `(tactic| decreasing_trivial_pre_omega) => `(tactic| with_reducible refine W_part ?_)
local macro_rules
  | `(tactic| decreasing_trivial_pre_omega) => `(tactic| with_reducible refine W_shal ?_)
local macro_rules
  | `(tactic| decreasing_trivial_pre_omega) => `(tactic| with_reducible refine W_plain ?_)
local macro_rules
  | `(tactic| decreasing_trivial_pre_omega) => `(tactic| with_reducible refine W_tTru ?_)
local macro_rules
  | `(tactic| decreasing_trivial_pre_omega) => `(tactic| with_reducible refine W_eNot ?_)
local macro_rules
  | `(tactic| decreasing_trivial_pre_omega) => `(tactic| with_reducible refine W_eIf ?_)
local macro_rules
  | `(tactic| decreasing_trivial_pre_omega) => `(tactic| with_reducible refine W_eOr ?_)
local macro_rules
  | `(tactic| decreasing_trivial_pre_omega) => `(tactic| with_reducible refine W_eAnd ?_)
local macro_rules
  | `(tactic| decreasing_trivial_pre_omega) => `(tactic| ((with_reducible refine Br.of_f ?_ ?_); exact rfl))
local macro_rules
  | `(tactic| decreasing_trivial_pre_omega) => `(tactic| ((with_reducible refine Br.of_t ?_ ?_); exact rfl))
local macro_rules
  | `(tactic| decreasing_trivial_pre_omega) => `(tactic| with_reducible refine Br.f ?_)
local macro_rules
  | `(tactic| decreasing_trivial_pre_omega) => `(tactic| with_reducible refine Br.t ?_)
local macro_rules
  | `(tactic| decreasing_trivial_pre_omega) => `(tactic| with_reducible refine W_or ?_)
local macro_rules
  | `(tactic| decreasing_trivial_pre_omega) => `(tactic| with_reducible refine W_and ?_)
local macro_rules
  | `(tactic| decreasing_trivial_pre_omega) => `(tactic| with_reducible refine W_not ?_)
local macro_rules
  | `(tactic| decreasing_trivial_pre_omega) => `(tactic| with_reducible refine W_isi ?_)
local macro_rules
  | `(tactic| decreasing_trivial_pre_omega) => `(tactic| with_reducible refine W_lst ?_)
local macro_rules
  | `(tactic| decreasing_trivial_pre_omega) => `(tactic| with_reducible refine W_tup ?_)
local macro_rules
  | `(tactic| decreasing_trivial_pre_omega) => `(tactic| with_reducible refine W_make ?_)
local macro_rules
  | `(tactic| decreasing_trivial_pre_omega) => `(tactic| with_reducible refine W_meth ?_)
local macro_rules
  | `(tactic| decreasing_trivial_pre_omega) => `(tactic| with_reducible refine W_callIo ?_)
local macro_rules
  | `(tactic| decreasing_trivial_pre_omega) => `(tactic| with_reducible refine W_call ?_)
local macro_rules
  | `(tactic| decreasing_trivial_pre_omega) => `(tactic| with_reducible refine W_items ?_)
local macro_rules
  | `(tactic| decreasing_trivial_pre_omega) => `(tactic| with_reducible refine W_expr ?_)
local macro_rules
  | `(tactic| decreasing_trivial_pre_omega) => `(tactic| with_reducible refine W_nx ?_)
local macro_rules
  | `(tactic| decreasing_trivial_pre_omega) => `(tactic| with_reducible refine W_if ?_)
local macro_rules
  | `(tactic| decreasing_trivial_pre_omega) => `(tactic| with_reducible refine W_rt ?_)
local macro_rules
  | `(tactic| decreasing_trivial_pre_omega) => `(tactic| with_reducible refine W_asg ?_)
local macro_rules
  | `(tactic| decreasing_trivial_pre_omega) => `(tactic| ((with_reducible refine Ent.mk (fun ρ hρ => ?_)); (simp only [List.map_cons, List.map_nil, List.length_cons, List.length_nil, Nat.reduceAdd, Nat.reduceSub, List.replicate_succ, List.replicate_zero, List.cons_append, List.nil_append, List.append_nil] at hρ); subst hρ))
local macro_rules
  | `(tactic| decreasing_trivial_pre_omega) => `(tactic| ((with_reducible refine Upd.mk (fun ρ hρ => ?_)); (try simp only [List.set_cons_zero, List.set_cons_succ, setL, wipeD, putD, outsF, List.map_cons, List.map_nil, List.getElem?_cons_zero, List.getElem?_cons_succ, Option.join_some, Option.join_none] at hρ); subst hρ))
local macro_rules
  | `(tactic| decreasing_trivial_pre_omega) => `(tactic| with_reducible refine IsN.mk ?_)
local macro_rules
  | `(tactic| decreasing_trivial_pre_omega) => `(tactic| with_reducible refine IsI.mk ?_)
local macro_rules
  | `(tactic| decreasing_trivial_pre_omega) => `(tactic| with_reducible refine IsB.mk ?_)
local macro_rules
  | `(tactic| decreasing_trivial_pre_omega) => `(tactic| with_reducible refine W_tOf ?_)
local macro_rules
  | `(tactic| decreasing_trivial_pre_omega) => `(tactic| with_reducible refine W_bt ?_)
local macro_rules
  | `(tactic| decreasing_trivial_pre_omega) => `(tactic| with_reducible refine W_uns ?_)
local macro_rules
  | `(tactic| decreasing_trivial_pre_omega) => `(tactic| with_reducible refine W_un ?_)
local macro_rules
  | `(tactic| decreasing_trivial_pre_omega) => `(tactic| with_reducible refine W_bin ?_)
local macro_rules
  | `(tactic| decreasing_trivial_pre_omega) => `(tactic| with_reducible refine W_nil ?_)
local macro_rules
  | `(tactic| decreasing_trivial_pre_omega) => `(tactic| with_reducible refine W_xcons ?_)
local macro_rules
  | `(tactic| decreasing_trivial_pre_omega) => `(tactic| with_reducible refine W_mcons ?_)
local macro_rules
  | `(tactic| decreasing_trivial_pre_omega) => `(tactic| with_reducible refine W_con ?_)
local macro_rules
  | `(tactic| decreasing_trivial_pre_omega) => `(tactic| ((with_reducible apply W_eV); exact rfl))
local macro_rules
  | `(tactic| decreasing_trivial_pre_omega) => `(tactic| ((with_reducible apply W_oB); exact rfl))
local macro_rules
  | `(tactic| decreasing_trivial_pre_omega) => `(tactic| with_reducible refine W_val ?_)
local macro_rules
  | `(tactic| decreasing_trivial_pre_omega) => `(tactic| with_reducible apply Sm.mk)
local macro_rules
  | `(tactic| decreasing_trivial_pre_omega) => `(tactic| with_reducible refine W_seq ?_)
local macro_rules
  | `(tactic| get_elem_tactic_extensible) => `(tactic| repeat decreasing_trivial_pre_omega)
local macro_rules
  | `(tactic| sizeOf_list_dec) => `(tactic| repeat ((fail_if_success (with_reducible refine isSeqIf ?_)); decreasing_trivial_pre_omega))
section
set_option autoImplicit false
set_option Elab.async false
set_option linter.all false
set_option maxRecDepth 100000
set_option maxHeartbeats 4000000
namespace Lw
open PySem L2 DM
section

theorem is_word_is {z : Str} (h : IsW z) : g_is_word.m [.str z] = .ok (.bl true) [none] := by
  have hl := h.len
  obtain ⟨a, t, e, ha, ht, _⟩ := h.ex
  have hi : idxD (.str z) (.int 0) = some (.str ⟨#[a]⟩) := by
    show (atI z.cps.toList 0).map _ = _
    rw [e, atI_ofNat (Int.le_refl _) (by simp)]; rfl
  have c1 : (1 : Int) ≤ z.length ∧ ((z.length : Nat) : Int) < 13 := by omega
  have h1 := low_in ha true
  refine We.eq (W_def m_is_word rfl ?_)
  unfold m_is_word
  get_elem_tactic_extensible
  refine Br.of_f (by simp [c1]) ?_
  get_elem_tactic_extensible
  refine W_lcA (f := fun c => .str ⟨#[c]⟩) z.cps.toList (fun _ => .bl true) ?_ (fun c hc => ?_) rfl ?_
  · get_elem_tactic_extensible
  · have hc' : lowC c ∨ digC c := by
      rw [e] at hc
      rcases List.mem_cons.mp hc with k | k
      · exact .inl (k ▸ ha)
      · exact ht c k
    get_elem_tactic_extensible
    refine ⟨rfl, ?_, fun _ => ?_⟩
    · get_elem_tactic_extensible
    · rcases hc' with k | k
      · have h2 := low_in k false
        get_elem_tactic_extensible
      · have h2 := dig_low k
        have h3 := dig_in k
        get_elem_tactic_extensible
  get_elem_tactic_extensible
  simp
theorem is_list_is (l : List D) : g_is_list.m [.lst l] = .ok (.bl true) [none] := by
  refine We.eq (W_def m_is_list rfl ?_)
  unfold m_is_list
  get_elem_tactic_extensible
theorem is_row_is (a b : D) : g_is_row.m [.tup [a, b], .int 2] = .ok (.bl true) [none, none] := by
  refine We.eq (W_def m_is_row rfl ?_)
  unfold m_is_row
  get_elem_tactic_extensible
theorem is_among_is {z : Str} {ps : List Str} (h : IsW z) (w : D) (hw : w = .lst (ps.map .str) ∨ w = .tup (ps.map .str)) : g_is_among.m [.str z, w] = .ok (.bl (decide (z ∈ ps))) [none, none] := by
  refine We.eq (W_def m_is_among rfl ?_)
  unfold m_is_among
  rcases hw with rfl | rfl
  · get_elem_tactic_extensible
    refine We.of_eq (is_word_is h) ?_
    get_elem_tactic_extensible
  · get_elem_tactic_extensible
    refine We.of_eq (is_word_is h) ?_
    get_elem_tactic_extensible

end
end Lw
end
section
set_option autoImplicit false
set_option Elab.async false
set_option linter.all false
set_option maxRecDepth 100000
set_option maxHeartbeats 4000000
namespace Lw
open PySem L2 DM
section

theorem wrong_post_is {ps : List Str} (hw : ∀ p ∈ ps, IsW p) (hn : ps.Nodup) : g_wrong_post.m [.lst (ps.map .str)] = .ok .non [none] := by
  refine We.eq (W_def m_wrong_post rfl ?_)
  have h1 := is_list_is (ps.map .str)
  unfold m_wrong_post
  get_elem_tactic_extensible
  rw [enumL_map]
  refine W_forL _ (fun done ρ => ∃ x y, ρ = [some (.lst (ps.map .str)), x, y]) ⟨_, _, rfl⟩ ?_ ?_
  · rintro done ⟨x, k⟩ rest ρ hl ⟨a, b, rfl⟩
    have hm : (x, k) ∈ ps.zipIdx := by rw [hl]; simp
    have hk := List.mem_zipIdx_iff_getElem?.mp hm
    have h2 := is_word_is (hw x (List.mem_of_getElem? hk))
    have h3 := nodup_take hn hk
    get_elem_tactic_extensible
    refine Br.of_f (by simp [h3]) ?_
    get_elem_tactic_extensible
    exact ⟨_, _, rfl⟩
  · rintro ρ ⟨a, b, rfl⟩
    get_elem_tactic_extensible
/-- ties as they are told -/
structure TiesOk (ps : List Str) (ts : List (Str × Str)) : Prop where
  ne : ∀ t ∈ ts, t.1 ≠ t.2 ∧ t.1 ∈ ps ∧ t.2 ∈ ps
  nd : ts.Nodup
  na : ∀ t ∈ ts, (t.2, t.1) ∉ ts
  len : ts.length ≤ 10000
def keyP (p : (Str × Str) × Nat) : List Key := [.inr p.1.1, .inr p.1.2]
theorem wrong_tie_is {ps : List Str} {ts : List (Str × Str)} (hw : ∀ p ∈ ps, IsW p) (ht : TiesOk ps ts) : g_wrong_tie.m [.lst (ps.map .str), .lst (ts.map pairD)] = .ok .non [none, none] := by
  refine We.eq (W_def m_wrong_tie rfl ?_)
  have h1 := is_list_is (ts.map pairD)
  unfold m_wrong_tie
  get_elem_tactic_extensible
  rw [enumL_map]
  refine W_forL _ (fun done ρ => ∃ x y z w, ρ = [some (.lst (ps.map .str)), some (.lst (ts.map pairD)), some (.dct (done.map keyP) (done.map fun _ => .bl true)), x, y, z, w]) ⟨_, _, _, _, rfl⟩ ?_ ?_
  · rintro done ⟨⟨p, q⟩, k⟩ rest ρ hl ⟨a, b, c, d, rfl⟩
    have hm : ((p, q), k) ∈ ts.zipIdx := by rw [hl]; simp
    have hk := List.mem_zipIdx_iff_getElem?.mp hm
    have hmt := List.mem_of_getElem? hk
    obtain ⟨n1, n2, n3⟩ := ht.ne _ hmt
    have h2 := is_row_is (.str p) (.str q)
    have h3 := is_among_is (hw p n2) _ (.inl rfl : D.lst (ps.map .str) = _ ∨ _)
    have h4 := is_among_is (hw q n3) _ (.inl rfl : D.lst (ps.map .str) = _ ∨ _)
    have hmem : ∀ u v : Str, [Sum.inr u, Sum.inr v] ∈ done.map keyP → ∃ j, ((u, v), j) ∈ done := by
      intro u v z
      obtain ⟨⟨⟨u', v'⟩, j⟩, hj, e⟩ := List.mem_map.mp z
      simp only [keyP, List.cons.injEq, Sum.inr.injEq, and_true] at e
      exact ⟨j, by rw [← e.1, ← e.2]; exact hj⟩
    have nk1 : [Sum.inr p, Sum.inr q] ∉ done.map keyP := fun z => by
      obtain ⟨j, hj⟩ := hmem p q z
      have := List.mem_zipIdx_iff_getElem?.mp (show ((p, q), j) ∈ ts.zipIdx by rw [hl]; simp [hj])
      have e : j = k := (List.getElem?_inj (List.getElem?_eq_some_iff.mp this).1 ht.nd).mp (this.trans hk.symm)
      subst e
      have hd : (done ++ ((p, q), j) :: rest).Nodup := by rw [← hl]; exact nodup_zipIdx ts 0
      exact (List.nodup_append.mp hd).2.2 _ hj _ List.mem_cons_self rfl
    have nk2 : [Sum.inr q, Sum.inr p] ∉ done.map keyP := fun z => by
      obtain ⟨j, hj⟩ := hmem q p z
      have := List.mem_zipIdx_iff_getElem?.mp (show ((q, p), j) ∈ ts.zipIdx by rw [hl]; simp [hj])
      exact ht.na _ hmt (List.mem_of_getElem? this)
    have dl : done.length ≤ 10000 := by
      have e1 : ts.zipIdx.length = (done ++ ((p, q), k) :: rest).length := by rw [hl]
      have e2 := ht.len
      simp at e1
      omega
    have h5 := in_dct (n := false) (ds := [.str p, .str q]) (vs := done.map fun _ => D.bl true) rfl (show (done.map keyP).length = _ by simp)
    have h6 := in_dct (n := false) (ds := [.str q, .str p]) (vs := done.map fun _ => D.bl true) rfl (show (done.map keyP).length = _ by simp)
    have h7 := dput_newT (ds := [.str p, .str q]) (vs := done.map fun _ => D.bl true) (v := .bl true) rfl nk1 (by simp; omega)
    have hr : revD (.tup [.str p, .str q]) = some (.tup [.str q, .str p]) := rfl
    have hx : hasK (done.map keyP) [Sum.inr p, Sum.inr q] = false := by rw [← Bool.not_eq_true, hasK_iff]; exact nk1
    have hy : hasK (done.map keyP) [Sum.inr q, Sum.inr p] = false := by rw [← Bool.not_eq_true, hasK_iff]; exact nk2
    get_elem_tactic_extensible
    refine Br.of_f (by simp [n2]) ?_
    get_elem_tactic_extensible
    refine Br.of_f (by simp [n3]) ?_
    get_elem_tactic_extensible
    refine Br.of_f (by simp [n1]) ?_
    get_elem_tactic_extensible
    refine Br.of_f (by simp [hx]) ?_
    get_elem_tactic_extensible
    refine Br.of_f (by simp [hy]) ?_
    get_elem_tactic_extensible
    exact ⟨_, _, _, _, by rw [List.map_append, List.map_append]; rfl⟩
  · rintro ρ ⟨a, b, c, d, rfl⟩
    get_elem_tactic_extensible

end
end Lw
end
section
set_option autoImplicit false
set_option Elab.async false
set_option linter.all false
set_option maxRecDepth 100000
set_option maxHeartbeats 4000000
namespace Lw
open PySem L2 DM
section

/-! ### maps -/
def rowD (l : List Str) : D := .dic (l.map .inr) (l.map fun _ => .bl true)
def nearD (rows : List (Str × List Str)) : D := .dic (rows.map fun r => .inr r.1) (rows.map fun r => rowD r.2)
def mapD (ps : List Str) (rows : List (Str × List Str)) : D :=
  .obj "Map" ["own_posts", "own_numbers", "own_near"] [.tup (ps.map .str), .dic (ps.zipIdx.map fun p => .inr p.1) (ps.zipIdx.map fun p => .int (p.2 : Nat)), nearD rows]
def putRow (b : Str) (l : List Str) : List Str := if b ∈ l then l else l ++ [b]
def putRows (rows : List (Str × List Str)) (a b : Str) : List (Str × List Str) := rows.map fun r => if r.1 = a then (r.1, putRow b r.2) else r
theorem posK_map {α : Type} {f : α → Str} : ∀ (l : List α) (s : Str), posK (l.map fun x => (Sum.inr (f x) : Key)) (.inr s) = posK (l.map f) s
  | [], s => rfl
  | a :: l, s => by
    rw [List.map_cons, List.map_cons, posK, posK, posK_map l s]
    by_cases h : f a = s
    · rw [if_pos h, if_pos (by rw [h])]
    · rw [if_neg h, if_neg (by simp [h])]
theorem row_put {l : List Str} {b : Str} (h : l.length < 100000) : dputD (rowD l) (.str b) (.bl true) = some (rowD (putRow b l)) := by
  unfold putRow
  by_cases e : b ∈ l
  · rw [if_pos e]
    show (if (l.map fun _ => D.bl true).length < sizeLine then _ else _) = _
    rw [if_pos (sizeLine_lt (by simpa using h))]
    have hk : (Sum.inr b : Key) ∈ l.map .inr := List.mem_map.mpr ⟨b, e, rfl⟩
    unfold putKs putVs rowD
    rw [if_pos hk, if_pos hk]
    congr 2
    rw [List.zip_map', List.map_map]
    apply List.map_congr_left
    intro x hx
    simp
  · rw [if_neg e]
    have := dput_newS (ks := l.map .inr) (vs := l.map fun _ => D.bl true) (v := .bl true) (s := b) (by simpa using e) (by simpa using h)
    unfold rowD
    rw [this]; simp
theorem near_ent {rows : List (Str × List Str)} {a : Str} {l : List Str} (hn : (rows.map (·.1)).Nodup) (h : (a, l) ∈ rows) : ∃ j, entD (nearD rows) (.str a) = some (j, rowD l) ∧ rows[j]? = some (a, l) := by
  obtain ⟨j, e1, e2, e3⟩ := posK_some (rows.map (·.1)) a (List.mem_map.mpr ⟨_, h, rfl⟩)
  obtain ⟨i, hi, e4⟩ := List.getElem_of_mem h
  have hi' : (rows.map (·.1))[i]? = some a := by simp [hi, e4]
  have : j = i := (List.getElem?_inj e2 hn).mp (e3.trans hi'.symm)
  subst this
  refine ⟨j, ?_, by rw [List.getElem?_eq_getElem hi, e4]⟩
  show (posK (rows.map fun r => (Sum.inr r.1 : Key)) (.inr a)).bind (fun j => ((rows.map fun r => rowD r.2)[j]?).map fun e => (j, e)) = _
  rw [posK_map, e1]
  simp [hi, e4]
theorem near_idx {rows : List (Str × List Str)} {a : Str} {l : List Str} (hn : (rows.map (·.1)).Nodup) (h : (a, l) ∈ rows) : idxD (nearD rows) (.str a) = some (rowD l) := by
  obtain ⟨j, e1, e2, e3⟩ := posK_some (rows.map (·.1)) a (List.mem_map.mpr ⟨_, h, rfl⟩)
  obtain ⟨i, hi, e4⟩ := List.getElem_of_mem h
  have hi' : (rows.map (·.1))[i]? = some a := by simp [hi, e4]
  have : j = i := (List.getElem?_inj e2 hn).mp (e3.trans hi'.symm)
  subst this
  refine idx_dicS (by simp) (by rw [posK_map]; exact e1) (by simp [hi, e4])
theorem put_rows {rows : List (Str × List Str)} {a : Str} {l : List Str} {j : Nat} {b : Str} (hn : (rows.map (·.1)).Nodup) (h : rows[j]? = some (a, l)) : putRows rows a b = rows.set j (a, putRow b l) := by
  apply List.ext_getElem?
  intro i
  unfold putRows
  rw [List.getElem?_map, List.getElem?_set]
  obtain ⟨hj, ej⟩ := List.getElem?_eq_some_iff.mp h
  by_cases e : j = i
  · subst e
    rw [if_pos rfl, if_pos hj, h]; simp
  · rw [if_neg e]
    cases q : rows[i]? with
    | none => rfl
    | some r =>
      have : r.1 ≠ a := fun z => e ((List.getElem?_inj (show j < (rows.map (·.1)).length by simpa using hj) hn).mp (by rw [List.getElem?_map, List.getElem?_map, h, q]; simp [z]))
      simp [this]
theorem map_put {ps : List Str} {rows : List (Str × List Str)} {a b : Str} {l : List Str} (hn : (rows.map (·.1)).Nodup) (h : (a, l) ∈ rows) (hl : l.length < 100000) : put2D "Map" "own_near" (mapD ps rows) (.str a) (.str b) (.bl true) = some (mapD ps (putRows rows a b)) := by
  obtain ⟨j, e1, e2⟩ := near_ent hn h
  have e3 : posK (["own_posts", "own_numbers", "own_near"] : List Str) "own_near" = some 2 := by decide
  unfold put2D mapD
  dsimp only
  rw [if_pos rfl, e3]
  show ((entD (nearD rows) (.str a)).bind fun e => (dputD e.2 (.str b) (.bl true)).map _) = _
  rw [e1]
  show ((dputD (rowD l) (.str b) (.bl true)).map _) = _
  rw [row_put hl, Option.map_some]
  have : setEnt j (rowD (putRow b l)) (nearD rows) = nearD (putRows rows a b) := by
    rw [put_rows hn e2]
    unfold nearD setEnt
    dsimp only
    rw [List.map_set, List.map_set]
    congr 1
    obtain ⟨hj, ej⟩ := List.getElem?_eq_some_iff.mp e2
    apply List.ext_getElem?
    intro i
    rw [List.getElem?_set]
    by_cases e : j = i
    · subst e; simp [hj, ej]
    · simp [e]
  simp only [this]
  rfl
theorem putRows_fst {rows : List (Str × List Str)} {a b : Str} : (putRows rows a b).map (·.1) = rows.map (·.1) := by
  unfold putRows
  rw [List.map_map]
  apply List.map_congr_left
  intro r _
  by_cases h : r.1 = a <;> simp [h]

end
end Lw
end
section
set_option autoImplicit false
set_option Elab.async false
set_option linter.all false
set_option maxRecDepth 100000
set_option maxHeartbeats 4000000
namespace Lw
open PySem L2 DM
section

/-- near in the rows -/
def nbR (rows : List (Str × List Str)) (x y : Str) : Prop := ∃ r ∈ rows, r.1 = x ∧ y ∈ r.2
def startRows (ps : List Str) : List (Str × List Str) := ps.map fun p => (p, [p])
def allRows (ps : List Str) (ts : List (Str × Str)) : List (Str × List Str) := ts.foldl (fun rows t => putRows (putRows rows t.1 t.2) t.2 t.1) (startRows ps)
theorem putRow_len {b : Str} {l : List Str} : (putRow b l).length ≤ l.length + 1 := by unfold putRow; split <;> simp
theorem putRows_len {rows : List (Str × List Str)} {a b : Str} {n : Nat} (h : ∀ r ∈ rows, r.2.length ≤ n) : ∀ r ∈ putRows rows a b, r.2.length ≤ n + 1 := by
  intro r hr
  obtain ⟨q, hq, rfl⟩ := List.mem_map.mp hr
  have := h q hq
  have h2 := putRow_len (b := b) (l := q.2)
  by_cases e : q.1 = a
  · simp only [e, if_true]; omega
  · simp only [e, if_false]; omega
theorem row_of {rows : List (Str × List Str)} {a : Str} (h : a ∈ rows.map (·.1)) : ∃ l, (a, l) ∈ rows := by
  obtain ⟨r, hr, rfl⟩ := List.mem_map.mp h
  exact ⟨r.2, hr⟩
theorem nbR_put {rows : List (Str × List Str)} {a b x y : Str} (ha : a ∈ rows.map (·.1)) : nbR (putRows rows a b) x y ↔ nbR rows x y ∨ (x = a ∧ y = b) := by
  unfold nbR putRows putRow
  constructor
  · rintro ⟨r, hr, rfl, hy⟩
    obtain ⟨q, hq, rfl⟩ := List.mem_map.mp hr
    by_cases e : q.1 = a
    · simp only [e, if_true] at hy ⊢
      split at hy
      · exact .inl ⟨q, hq, e, hy⟩
      · rcases List.mem_append.mp hy with z | z
        · exact .inl ⟨q, hq, e, z⟩
        · exact .inr ⟨trivial, by simpa using z⟩
    · simp only [e, if_false] at hy ⊢
      exact .inl ⟨q, hq, rfl, hy⟩
  · rintro (⟨q, hq, rfl, hy⟩ | ⟨rfl, rfl⟩)
    · refine ⟨_, List.mem_map.mpr ⟨q, hq, rfl⟩, ?_⟩
      by_cases e : q.1 = a
      · simp only [e, if_true, true_and]
        split
        · exact hy
        · exact List.mem_append_left _ hy
      · simp only [e, if_false, true_and]; exact hy
    · obtain ⟨l, hl⟩ := row_of ha
      refine ⟨_, List.mem_map.mpr ⟨_, hl, rfl⟩, ?_⟩
      simp only [if_true, true_and]
      split
      · assumption
      · exact List.mem_append_right _ (by simp)
theorem allRows_snoc {ps : List Str} {ts : List (Str × Str)} {t : Str × Str} : allRows ps (ts ++ [t]) = putRows (putRows (allRows ps ts) t.1 t.2) t.2 t.1 := by unfold allRows; rw [List.foldl_append]; rfl
theorem init_is {ps : List Str} {ts : List (Str × Str)} (hw : ∀ p ∈ ps, IsW p) (hn : ps.Nodup) (ht : TiesOk ps ts) (hl : ps.length ≤ 10000) : g_Map___init__.m [.obj "Map" [] [], .lst (ps.map .str), .lst (ts.map pairD)] = .ok .non [some (mapD ps (allRows ps ts)), none, none] := by
  have h1 := wrong_post_is hw hn
  have h2 := wrong_tie_is hw ht
  refine We.eq (W_def m_Map___init__ rfl ?_)
  unfold m_Map___init__
  have kn : ∀ f : Str → Key, f = Sum.inr → (ps.map f).Nodup := fun f e => e ▸ List.Pairwise.map _ (fun a b h z => h (by simpa using z)) hn
  get_elem_tactic_extensible
  refine W_dcA (f := fun p => D.tup [.int (p.2 : Nat), .str p.1]) ps.zipIdx (fun p => .inr p.1) (fun p => .str p.1) (fun p => .int (p.2 : Nat)) (fun _ => rfl) ?_ ?_ ?_ rfl ?_
  · rw [show (fun p : Str × Nat => (Sum.inr p.1 : Key)) = (fun a : Str => (Sum.inr a : Key)) ∘ Prod.fst from rfl, ← List.map_map, List.zipIdx_map_fst]
    exact kn _ rfl
  · get_elem_tactic_extensible
    exact ⟨enumL_map _ _, rfl⟩
  · rintro ⟨p, k⟩ hp
    get_elem_tactic_extensible
    refine ⟨rfl, ?_, fun _ => ⟨?_, ?_⟩⟩ <;> get_elem_tactic_extensible
  get_elem_tactic_extensible
  refine W_dcA (f := .str) ps .inr .str (fun p => rowD [p]) (fun _ => rfl) (kn _ rfl) ?_ ?_ rfl ?_
  · get_elem_tactic_extensible
  · intro p hp
    get_elem_tactic_extensible
    refine ⟨rfl, ?_, fun _ => ⟨?_, ?_⟩⟩ <;> get_elem_tactic_extensible
  get_elem_tactic_extensible
  refine W_forL (f := pairD) ts (fun done ρ => ∃ x y, ρ = [some (mapD ps (allRows ps done)), some (.lst (ps.map .str)), some (.lst (ts.map pairD)), some .non, x, y, none, none] ∧ (allRows ps done).map (·.1) = ps ∧ ∀ r ∈ allRows ps done, r.2.length ≤ 1 + 2 * done.length) ⟨none, none, ?_, ?_, ?_⟩ ?_ ?_
  · unfold mapD allRows startRows nearD
    simp only [List.foldl_nil, List.map_map]
    rfl
  · unfold allRows startRows
    simp [Function.comp_def]
  · unfold allRows startRows
    intro r hr
    simp only [List.foldl_nil] at hr
    obtain ⟨p, _, rfl⟩ := List.mem_map.mp hr
    simp
  · rintro done ⟨p, q⟩ rest ρ hl ⟨x, y, rfl, k1, k2⟩
    have hm : (p, q) ∈ ts := by rw [hl]; simp
    obtain ⟨n1, n2, n3⟩ := ht.ne _ hm
    have dl : done.length ≤ 10000 := by
      have e1 : ts.length = (done ++ (p, q) :: rest).length := by rw [hl]
      have e2 := ht.len
      simp at e1
      omega
    obtain ⟨l1, m1⟩ := row_of (rows := allRows ps done) (a := p) (by rw [k1]; exact n2)
    obtain ⟨l2, m2⟩ := row_of (rows := putRows (allRows ps done) p q) (a := q) (by rw [putRows_fst, k1]; exact n3)
    have g1 := map_put (ps := ps) (b := q) (by rw [k1]; exact hn) m1 (by have := k2 _ m1; simp at this; omega)
    have k3 := putRows_len (a := p) (b := q) k2
    have g2 := map_put (ps := ps) (b := p) (by rw [putRows_fst, k1]; exact hn) m2 (by have := k3 _ m2; simp at this; omega)
    have k4 := putRows_len (a := q) (b := p) k3
    get_elem_tactic_extensible
    refine ⟨_, _, by rw [allRows_snoc], ?_, ?_⟩
    · rw [allRows_snoc, putRows_fst, putRows_fst, k1]
    · rw [allRows_snoc]
      intro r hr
      have := k4 r hr
      simp; omega
  · rintro ρ ⟨x, y, rfl, k1, k2⟩
    get_elem_tactic_extensible

end
end Lw
end
section
set_option autoImplicit false
set_option Elab.async false
set_option linter.all false
set_option maxRecDepth 100000
set_option maxHeartbeats 4000000
namespace Lw
open PySem L2 DM
section

theorem nbR_start {ps : List Str} {x y : Str} : nbR (startRows ps) x y ↔ x ∈ ps ∧ x = y := by
  unfold nbR startRows
  constructor
  · rintro ⟨r, hr, rfl, hy⟩
    obtain ⟨p, hp, rfl⟩ := List.mem_map.mp hr
    exact ⟨hp, (by simpa using hy : y = p).symm⟩
  · rintro ⟨hx, rfl⟩
    exact ⟨_, List.mem_map.mpr ⟨x, hx, rfl⟩, rfl, by simp⟩
theorem allRows_fst {ps : List Str} : ∀ (ts : List (Str × Str)), (allRows ps ts).map (·.1) = ps := by
  intro ts
  suffices H : ∀ (ts : List (Str × Str)) (rows : List (Str × List Str)), (ts.foldl (fun rows t => putRows (putRows rows t.1 t.2) t.2 t.1) rows).map (·.1) = rows.map (·.1) by
    unfold allRows; rw [H]; unfold startRows; simp [Function.comp_def]
  intro ts
  induction ts with
  | nil => intro rows; rfl
  | cons t ts ih => intro rows; rw [List.foldl_cons, ih, putRows_fst, putRows_fst]
theorem nbR_all {ps : List Str} {x y : Str} (ts : List (Str × Str)) (h : ∀ t ∈ ts, t.1 ∈ ps ∧ t.2 ∈ ps) : nbR (allRows ps ts) x y ↔ (x ∈ ps ∧ x = y) ∨ (x, y) ∈ ts ∨ (y, x) ∈ ts := by
  suffices H : ∀ (ts : List (Str × Str)) (rows : List (Str × List Str)), rows.map (·.1) = ps → (∀ t ∈ ts, t.1 ∈ ps ∧ t.2 ∈ ps) → (nbR (ts.foldl (fun rows t => putRows (putRows rows t.1 t.2) t.2 t.1) rows) x y ↔ nbR rows x y ∨ (x, y) ∈ ts ∨ (y, x) ∈ ts) by
    unfold allRows; rw [H ts _ (by unfold startRows; simp [Function.comp_def]) h, nbR_start]
  intro ts
  induction ts with
  | nil => intro rows _ _; simp
  | cons t ts ih =>
    intro rows e h
    obtain ⟨a, b⟩ := t
    obtain ⟨ha, hb⟩ := h _ List.mem_cons_self
    rw [List.foldl_cons, ih _ (by rw [putRows_fst, putRows_fst, e]) fun t ht => h t (List.mem_cons_of_mem _ ht), nbR_put (by rw [putRows_fst, e]; exact hb), nbR_put (by rw [e]; exact ha)]
    simp only [List.mem_cons, Prod.mk.injEq]
    constructor
    · rintro (((z | z) | z) | z | z) <;> simp [z]
    · rintro (z | (z | z) | (z | z)) <;> simp [z]
/-- a map: its posts, and which of them are near -/
structure MapOk (d : D) (ps : List Str) (nb : Str → Str → Bool) : Prop where
  ex : ∃ rows, d = mapD ps rows ∧ rows.map (·.1) = ps ∧ ∀ x y, x ∈ ps → (nbR rows x y ↔ nb x y = true)
  nd : ps.Nodup
  wd : ∀ p ∈ ps, IsW p
  len : ps.length ≤ 10000
  sub : ∀ x y, nb x y = true → x ∈ ps ∧ y ∈ ps
  rf : ∀ x ∈ ps, nb x x = true
  sy : ∀ x y, nb x y = nb y x
def nbOf (ps : List Str) (ts : List (Str × Str)) (x y : Str) : Bool := (decide (x ∈ ps) && decide (x = y)) || (decide ((x, y) ∈ ts) || decide ((y, x) ∈ ts))
theorem made_ok {ps : List Str} {ts : List (Str × Str)} (hw : ∀ p ∈ ps, IsW p) (hn : ps.Nodup) (ht : TiesOk ps ts) (hl : ps.length ≤ 10000) : MapOk (mapD ps (allRows ps ts)) ps (nbOf ps ts) where
  ex := ⟨_, rfl, allRows_fst ts, fun x y hx => by rw [nbR_all ts fun t h => (ht.ne t h).2]; unfold nbOf; simp⟩
  nd := hn
  wd := hw
  len := hl
  sub := fun x y h => by
    unfold nbOf at h
    simp at h
    rcases h with ⟨h, rfl⟩ | h | h
    · exact ⟨h, h⟩
    · exact (ht.ne _ h).2
    · exact (ht.ne _ h).2.symm
  rf := fun x h => by unfold nbOf; simp [h]
  sy := fun x y => by
    unfold nbOf
    rw [Bool.eq_iff_iff]
    simp
    constructor
    · rintro (⟨h, rfl⟩ | h | h) <;> simp [h]
    · rintro (⟨h, rfl⟩ | h | h) <;> simp [h]
section
variable {d : D} {ps : List Str} {nb : Str → Str → Bool}
theorem row_in {rows : List (Str × List Str)} (hn : ps.Nodup) (e2 : rows.map (·.1) = ps) (e3 : ∀ x y, x ∈ ps → (nbR rows x y ↔ nb x y = true)) {x : Str} (hx : x ∈ ps) : ∃ l, idxD (nearD rows) (.str x) = some (rowD l) ∧ ∀ y, y ∈ l ↔ nb x y = true := by
  obtain ⟨l, hl⟩ := row_of (rows := rows) (a := x) (by rw [e2]; exact hx)
  rw [← e2] at hn
  refine ⟨l, near_idx hn hl, fun y => ?_⟩
  rw [← e3 x y hx]
  unfold nbR
  constructor
  · exact fun z => ⟨_, hl, rfl, z⟩
  · rintro ⟨⟨a, r⟩, hr, e4, z⟩
    dsimp only at e4 z
    subst e4
    obtain ⟨i, hi, ei⟩ := List.getElem_of_mem hl
    obtain ⟨j, hj, ej⟩ := List.getElem_of_mem hr
    have : i = j := (List.getElem_inj (h₀ := by simpa using hi) (h₁ := by simpa using hj) hn).mp (by simp [ei, ej])
    subst this
    rw [ei] at ej; cases ej; exact z
theorem MapOk.row (h : MapOk d ps nb) {x : Str} (hx : x ∈ ps) : ∃ rows l, d = mapD ps rows ∧ idxD (nearD rows) (.str x) = some (rowD l) ∧ ∀ y, y ∈ l ↔ nb x y = true := by
  obtain ⟨rows, e, e2, e3⟩ := h.ex
  obtain ⟨l, h1, h2⟩ := row_in h.nd e2 e3 hx
  exact ⟨rows, l, e, h1, h2⟩
theorem in_row {l : List Str} {y : Str} : inB false (.str y) (rowD l) = some (.bl (decide (y ∈ l))) := by
  unfold rowD
  rw [in_dicS (by simp)]
  have : hasK (l.map (Sum.inr : Str → Key)) (.inr y) = decide (y ∈ l) := by
    rw [Bool.eq_iff_iff, hasK_iff]; simp
  simp [this]
theorem MapOk.isO (h : MapOk d ps nb) {m : Str} (hm : m ∉ (["own_posts", "own_numbers", "own_near"] : List Str)) : isObj "Map" m d = some () := by
  obtain ⟨rows, rfl, _⟩ := h.ex
  show (if "Map" = "Map" ∧ m ∉ _ then some () else none) = _
  rw [if_pos ⟨rfl, hm⟩]
local macro_rules
  | `(tactic| decreasing_trivial_pre_omega) => `(tactic| ((with_reducible refine MapOk.isO (by assumption) ?_); decide))

theorem posts_is (h : MapOk d ps nb) : g_Map_posts.m [d] = .ok (.lst (ps.map .str)) [none] := by
  obtain ⟨rows, rfl, _⟩ := h.ex
  refine We.eq (W_def m_Map_posts rfl ?_)
  unfold m_Map_posts
  get_elem_tactic_extensible
theorem check_is (h : MapOk d ps nb) (l : List Str) (hl : ∀ x ∈ l, x ∈ ps) : g_Map_check.m [d, .lst (l.map .str)] = .ok .non [none, none] := by
  obtain ⟨rows, rfl, _⟩ := h.ex
  refine We.eq (W_def m_Map_check rfl ?_)
  unfold m_Map_check
  get_elem_tactic_extensible
  refine W_forL (f := .str) l (fun done ρ => ∃ x, ρ = [some (mapD ps rows), some (.lst (l.map .str)), x]) ⟨_, rfl⟩ ?_ ?_
  · rintro done x rest ρ hl2 ⟨y, rfl⟩
    have hx : x ∈ ps := hl x (by rw [hl2]; simp)
    have h1 := is_among_is (h.wd x hx) _ (.inr rfl : D.tup (ps.map .str) = _ ∨ _)
    get_elem_tactic_extensible
    refine Br.of_f (by simp [hx]) ?_
    get_elem_tactic_extensible
    exact ⟨_, rfl⟩
  · rintro ρ ⟨x, rfl⟩
    get_elem_tactic_extensible
theorem is_near_is (h : MapOk d ps nb) {x y : Str} (hx : x ∈ ps) (hy : y ∈ ps) : g_Map_is_near.m [d, .str x, .str y] = .ok (.bl (nb x y)) [none, none, none] := by
  have h1 : g_Map_check.m [d, .lst [.str x, .str y]] = _ := check_is h [x, y] (by simp [hx, hy])
  obtain ⟨rows, l, rfl, h2, h3⟩ := h.row hx
  have h4 := in_row (l := l) (y := y)
  refine We.eq (W_def m_Map_is_near rfl ?_)
  unfold m_Map_is_near
  get_elem_tactic_extensible
  refine ⟨?_, rfl⟩
  congr 1
  rw [Bool.eq_iff_iff]; simp [h3]
theorem near_is (h : MapOk d ps nb) {x : Str} (hx : x ∈ ps) : g_Map_near.m [d, .str x] = .ok (.lst ((ps.filter (nb x)).map .str)) [none, none] := by
  have h1 : g_Map_check.m [d, .lst [.str x]] = _ := check_is h [x] (by simp [hx])
  obtain ⟨rows, l, rfl, h2, h3⟩ := h.row hx
  refine We.eq (W_def m_Map_near rfl ?_)
  unfold m_Map_near
  get_elem_tactic_extensible
  refine W_lc (f := .str) ps (nb x) .str ?_ (fun y hy => ?_) rfl ?_
  · get_elem_tactic_extensible
  · have h4 := in_row (l := l) (y := y)
    get_elem_tactic_extensible
    refine ⟨rfl, ?_, fun _ => ?_⟩
    · get_elem_tactic_extensible
      refine ⟨?_, rfl⟩
      rw [Bool.eq_iff_iff]; simp [h3]
    · get_elem_tactic_extensible
  · get_elem_tactic_extensible
end

end
end Lw
end
section
set_option autoImplicit false
set_option Elab.async false
set_option linter.all false
set_option maxRecDepth 100000
set_option maxHeartbeats 4000000
namespace Lw
open PySem L2 DM
section

local macro_rules
  | `(tactic| decreasing_trivial_pre_omega) => `(tactic| ((with_reducible refine MapOk.isO (by assumption) ?_); decide))
--MAP
/-! ### peelings, as the package makes them -/
def nearAll (nb : Str → Str → Bool) (l : List Str) : Bool := l.all fun x => l.all fun y => nb x y
def tiedL (ps : List Str) (nb : Str → Str → Bool) (x : Str) : List Str := ps.filter fun y => nb x y && !decide (y = x)
def leftL (ps : List Str) (nb : Str → Str → Bool) (left : List Str) (x : Str) : List Str := (tiedL ps nb x).filter fun y => decide (y ∈ left)
def freeB (ps : List Str) (nb : Str → Str → Bool) (left : List Str) (x : Str) : Bool := nearAll nb (leftL ps nb left x)
def freeL (ps : List Str) (nb : Str → Str → Bool) (left : List Str) : List Str := left.filter (freeB ps nb left)
section
variable {d : D} {ps : List Str} {nb : Str → Str → Bool}
def peelL (ps : List Str) (nb : Str → Str → Bool) : Nat → List Str → List Str → List Str × List Str
  | 0, found, left => (found, left)
  | n + 1, found, left => match freeL ps nb left with
    | [] => (found, left)
    | x :: _ => peelL ps nb n (found ++ [x]) (left.erase x)
end

end
end Lw
end
section
set_option autoImplicit false
set_option Elab.async false
set_option linter.all false
set_option maxRecDepth 100000
set_option maxHeartbeats 4000000
namespace Lw
open PySem L2 DM
section

local macro_rules
  | `(tactic| decreasing_trivial_pre_omega) => `(tactic| ((with_reducible refine MapOk.isO (by assumption) ?_); decide))
--MAP
theorem ties_ok {ps : List Str} {ts : List (Str × Str)} (h : Ties ps ts) (l : ts.length ≤ 10000) : TiesOk ps ts := ⟨h.ne, h.nd, h.na, l⟩
section
variable {d : D} {ps : List Str} {nb : Str → Str → Bool}
theorem ties_is (h : MapOk d ps nb) (hb : ps.length ≤ 100) : g_Map_ties.m [d] = .ok (.lst ((tiesR nb ps).map pairD)) [none] := by
  obtain ⟨rows, rfl, hr⟩ := h.ex
  refine We.eq (W_def m_Map_ties rfl ?_)
  unfold m_Map_ties
  get_elem_tactic_extensible
  rw [enumL_map]
  refine W_forL _ (fun done ρ => ∃ x y acc, ρ = [some (mapD ps rows), some (.lst (acc.map pairD)), x, y, none] ∧ acc = (done.flatMap fun p => ((ps.drop (p.2 + 1)).filter (nb p.1)).map fun y => (p.1, y)) ∧ acc.length ≤ done.length * 100) ⟨_, _, [], rfl, rfl, by simp⟩ ?_ ?_
  · rintro done ⟨x, k⟩ rest ρ hl ⟨a, b, acc, rfl, e, hlen⟩
    have hm : (x, k) ∈ ps.zipIdx := by rw [hl]; simp
    have hx : x ∈ ps := List.mem_of_getElem? (List.mem_zipIdx_iff_getElem?.mp hm)
    obtain ⟨l, h2, h3⟩ := row_in h.nd hr.1 hr.2 hx
    have dl : done.length ≤ 100 := by
      have e1 : ps.zipIdx.length = (done ++ (x, k) :: rest).length := by rw [hl]
      simp at e1
      omega
    have fl := List.length_filter_le (nb x) (ps.drop (k + 1))
    have fl2 : (ps.drop (k + 1)).length ≤ 100 := by rw [List.length_drop]; omega
    get_elem_tactic_extensible
    refine W_lc (f := .str) (ps.drop (k + 1)) (nb x) (fun y => pairD (x, y)) ?_ (fun y hy => ?_) rfl ?_
    · get_elem_tactic_extensible
    · have h4 := in_row (l := l) (y := y)
      get_elem_tactic_extensible
      refine ⟨rfl, ?_, fun _ => ?_⟩
      · get_elem_tactic_extensible
        refine ⟨?_, rfl⟩
        rw [Bool.eq_iff_iff]; simp [h3]
      · get_elem_tactic_extensible
    have h5 := ext_is (l := acc.map pairD) (m := ((ps.drop (k + 1)).filter (nb x)).map fun y => pairD (x, y)) (by simp; omega)
    get_elem_tactic_extensible
    refine ⟨some (.int k), some (.str x), acc ++ ((ps.drop (k + 1)).filter (nb x)).map (fun y => (x, y)), ?_, ?_, ?_⟩
    · rw [List.map_append, List.map_map]; rfl
    · rw [List.flatMap_append, ← e]; simp
    · simp; omega
  · rintro ρ ⟨a, b, acc, rfl, e, hlen⟩
    rw [tiesR_flat ps 0 rfl] at e
    subst e
    get_elem_tactic_extensible
/-- what is left of a map -/
theorem MapOk.part (h : MapOk d ps nb) (hb : ps.length ≤ 100) (keep : Str → Bool) : ∃ d' nb', g_Map___init__.m [.obj "Map" [] [], .lst ((ps.filter keep).map .str), .lst (((tiesR nb ps).filter fun t => keep t.1 && keep t.2).map pairD)] = .ok .non [some d', none, none] ∧ MapOk d' (ps.filter keep) nb' ∧ ∀ x ∈ ps.filter keep, ∀ y ∈ ps.filter keep, nb x y = nb' x y := by
  have lt := tiesR_len (nb := nb) (l := ps)
  have hsq : ps.length * ps.length ≤ 100 * 100 := Nat.mul_le_mul hb hb
  have fl := List.length_filter_le (fun t : Str × Str => keep t.1 && keep t.2) (tiesR nb ps)
  have ht : TiesOk (ps.filter keep) ((tiesR nb ps).filter fun t => keep t.1 && keep t.2) := by
    refine ⟨fun t ht => ?_, nodup_filter _ (tiesR_nodup h.nd), fun t ht k => ?_, by omega⟩
    · obtain ⟨h1, h2⟩ := List.mem_filter.mp ht
      obtain ⟨a, b, c, e⟩ := tiesR_mem (show (t.1, t.2) ∈ tiesR nb ps from h1)
      rw [Bool.and_eq_true] at h2
      exact ⟨e h.nd, List.mem_filter.mpr ⟨a, h2.1⟩, List.mem_filter.mpr ⟨b, h2.2⟩⟩
    · exact tiesR_anti h.nd (show (t.1, t.2) ∈ tiesR nb ps from (List.mem_filter.mp ht).1) (List.mem_filter.mp k).1
  have hw : ∀ p ∈ ps.filter keep, IsW p := fun p hp => h.wd p (List.mem_filter.mp hp).1
  have hn := nodup_filter keep h.nd
  have hl : (ps.filter keep).length ≤ 10000 := Nat.le_trans (List.length_filter_le _ _) (by omega)
  refine ⟨_, _, init_is hw hn ht hl, made_ok hw hn ht hl, fun x hx y hy => ?_⟩
  unfold nbOf
  obtain ⟨x1, x2⟩ := List.mem_filter.mp hx
  obtain ⟨y1, y2⟩ := List.mem_filter.mp hy
  rw [Bool.eq_iff_iff]
  simp only [Bool.or_eq_true, Bool.and_eq_true, decide_eq_true_eq, List.mem_filter]
  constructor
  · intro k
    by_cases e : x = y
    · exact .inl ⟨⟨x1, x2⟩, e⟩
    · exact .inr ((tiesR_all h.sy x1 y1 e k).imp (fun z => ⟨z, x2, y2⟩) fun z => ⟨z, y2, x2⟩)
  · rintro (⟨_, rfl⟩ | ⟨z, _⟩ | ⟨z, _⟩)
    · exact h.rf x x1
    · exact (tiesR_mem z).2.2.1
    · rw [h.sy]; exact (tiesR_mem z).2.2.1
end

end
end Lw
end
section
set_option autoImplicit false
set_option Elab.async false
set_option linter.all false
set_option maxRecDepth 100000
set_option maxHeartbeats 4000000
namespace Lw
open PySem L2 DM
section

local macro_rules
  | `(tactic| decreasing_trivial_pre_omega) => `(tactic| ((with_reducible refine MapOk.isO (by assumption) ?_); decide))
--MAP
/-! ### the names -/
theorem perm_map_inv {α β : Type} {f : α → β} {l' m : List β} (p : l'.Perm m) : ∀ {l : List α}, m = l.map f → ∃ l2 : List α, l' = l2.map f ∧ l2.Perm l := by
  induction p with
  | nil => intro l e; exact ⟨[], rfl, by cases l with | nil => exact .nil | cons => simp at e⟩
  | cons x p ih =>
    intro l e
    cases l with
    | nil => simp at e
    | cons a l =>
      rw [List.map_cons, List.cons.injEq] at e
      obtain ⟨l2, e2, p2⟩ := ih e.2
      exact ⟨a :: l2, by rw [List.map_cons, e2, e.1], p2.cons a⟩
  | swap x y l0 =>
    intro l e
    cases l with
    | nil => simp at e
    | cons a l =>
      cases l with
      | nil => simp at e
      | cons b l =>
        simp only [List.map_cons, List.cons.injEq] at e
        exact ⟨b :: a :: l, by simp [e], .swap a b l⟩
  | trans p1 p2 i1 i2 =>
    intro l e
    obtain ⟨l2, e2, q2⟩ := i2 e
    obtain ⟨l3, e3, q3⟩ := i1 e2
    exact ⟨l3, e3, q3.trans q2⟩
theorem mixed_map {α : Type} {f : α → D} {s : D} {l : List α} (hs : SrcOk s) (hl : l.length ≤ 100000) : ∃ (s' : D) (l' : List α), SrcOk s' ∧ l'.Perm l ∧ g_law_mixed.m [s, .lst (l.map f)] = .ok (.lst (l'.map f)) [some s', none] := by
  obtain ⟨s', l', k1, k2, k3⟩ := mixed_is (l := l.map f) hs (by simpa using hl)
  obtain ⟨l2, rfl, p⟩ := perm_map_inv k2 rfl
  exact ⟨s', l2, k1, p, k3⟩
theorem of_map {α : Type} {f : α → D} {s : D} {l : List α} (hs : SrcOk s) (h0 : l ≠ []) (h1 : l.length ≤ 1000) : ∃ s' x, SrcOk s' ∧ x ∈ l ∧ g_law_of.m [s, .lst (l.map f)] = .ok (f x) [some s', none] := by
  obtain ⟨s', d, k1, k2, k3⟩ := of_is (l := l.map f) hs (by rw [List.length_map]; exact List.length_pos_iff.mpr h0) (by rw [List.length_map]; omega)
  obtain ⟨x, hx, rfl⟩ := List.mem_map.mp k2
  exact ⟨s', x, k1, hx, k3⟩
/-- a pick among n -/
theorem pick_nat {s : D} {n : Nat} (hs : SrcOk s) (h0 : 0 < n) (h1 : n ≤ 1000000) : ∃ s' r, SrcOk s' ∧ r < n ∧ g_law_pick.m [s, .int (n : Nat)] = .ok (.int (r : Nat)) [some s', none] := by
  obtain ⟨s', r, k1, k2, k3, k4⟩ := pick_is (many := (n : Nat)) hs (by omega)
  obtain ⟨m, rfl⟩ := Int.eq_ofNat_of_zero_le k2
  exact ⟨s', m, k1, by omega, k4⟩
theorem str100 : ∀ u : _root_.Fin 100, (100 + (u.val : Int)).natAbs < 2 ^ 1900 ∧ (Str.ofString (toString (100 + (u.val : Int)))).length ≤ 10 ∧ PyData.strOk (Str.ofString (toString (100 + (u.val : Int)))) = true := by decide +kernel
theorem str_is {u : Nat} (h : u < 100) : strD (.int (100 + (u : Int))) = some (.str (Str.ofString (toString (100 + (u : Int))))) := by
  have := str100 ⟨u, h⟩
  show (if _ then _ else _) = _
  rw [if_pos ⟨this.1, sizeLine_big (by have := this.2.1; dsimp only at this; omega), this.2.2⟩]
def tailsD : D := .lst [.str "", .str "", .str "", .str "k", .str "kkkkkkkkk"]
theorem tail_is {r : Nat} (h : r < 5) : ∃ t : Str, idxD tailsD (.int (r : Nat)) = some (.str t) ∧ (t.cps.toList = [] ∨ t.cps.toList = [107] ∨ t.cps.toList = List.replicate 9 107) := by
  have : r = 0 ∨ r = 1 ∨ r = 2 ∨ r = 3 ∨ r = 4 := by omega
  rcases this with rfl | rfl | rfl | rfl | rfl
  · exact ⟨"", idx_lst (by decide) rfl, .inl (by decide)⟩
  · exact ⟨"", idx_lst (by decide) rfl, .inl (by decide)⟩
  · exact ⟨"", idx_lst (by decide) rfl, .inl (by decide)⟩
  · exact ⟨"k", idx_lst (by decide) rfl, .inr (.inl (by decide))⟩
  · exact ⟨"kkkkkkkkk", idx_lst (by decide) rfl, .inr (.inr (by decide))⟩
theorem cps_app (a b : Str) : (a ++ b).cps.toList = a.cps.toList ++ b.cps.toList := by
  show (a.cps ++ b.cps).toList = _
  simp
theorem len_cps (a : Str) : a.length = a.cps.toList.length := by rw [Array.length_toList]; rfl
theorem Word1.isW {z : Str} {u : Nat} (h : Word1 z u) : IsW z := by
  obtain ⟨a, t, e, h1, h2, h3⟩ := h.ex
  refine ⟨a, _, e, h1, fun c hc => ?_, ?_⟩
  · rcases List.mem_cons.mp hc with rfl | hc
    · exact .inr ⟨by omega, by omega⟩
    · rcases List.mem_cons.mp hc with rfl | hc
      · exact .inr ⟨by omega, by omega⟩
      · have : c = 107 := by
          rcases h2 with rfl | rfl | rfl
          · cases hc
          · simpa using hc
          · exact List.eq_of_mem_replicate hc
        exact .inl (by unfold lowC; omega)
  · rcases h2 with rfl | rfl | rfl <;> simp
theorem names_nodup {l : List Str} {sh : Nat} (hl : l.length ≤ 100) (h : ∀ i z, l[i]? = some z → Word1 z ((sh + 37 * i) % 100)) : l.Nodup := by
  refine List.pairwise_iff_getElem.mpr fun i j hi hj hij e => ?_
  have h1 := h j _ (List.getElem?_eq_getElem hj)
  have h2 := h i _ (List.getElem?_eq_getElem hi)
  rw [e] at h2
  have := h1.inj h2
  omega
theorem names_is {s : D} {n : Nat} (hs : SrcOk s) (hn : n ≤ 100) : ∃ (s' : D) (ns : List Str), SrcOk s' ∧ ns.length = n ∧ ns.Nodup ∧ (∀ z ∈ ns, IsW z) ∧ g_law_names.m [s, .int (n : Nat)] = .ok (.lst (ns.map .str)) [some s', none] := by
  obtain ⟨s1, sh, hs1, hsh, e1⟩ := pick_nat (n := 100) hs (by decide) (by decide)
  have e1 : g_law_pick.m [s, .int 100] = _ := e1
  have key : We (g_law_names.m [s, .int (n : Nat)]) (fun d ρ => ∃ (s' : D) (ns : List Str), SrcOk s' ∧ ns.length = n ∧ (∀ i z, ns[i]? = some z → Word1 z ((sh + 37 * i) % 100)) ∧ d = .lst (ns.map .str) ∧ ρ = [some s', none]) NoE := by
    refine W_def m_law_names rfl ?_
    unfold m_law_names
    have ho := okR_nat (n := n) (by omega)
    get_elem_tactic_extensible
    rw [rangeD_nat]
    refine W_forL (List.range n) (fun done ρ => ∃ (s' : D) (ns : List Str) (x y : Option D), ρ = [some s', some (.int n), x, some (.int sh), some (.lst (ns.map .str)), some tailsD, y] ∧ SrcOk s' ∧ ns.length = done.length ∧ ∀ i z, ns[i]? = some z → Word1 z ((sh + 37 * i) % 100)) ⟨s1, [], none, none, rfl, hs1, rfl, fun i z h => by simp at h⟩ ?_ ?_
    · rintro done k rest ρ hl ⟨s2, ns, x, y, rfl, hs2, hnl, hw⟩
      have hk : k = done.length := by
        have : (List.range n)[done.length]? = some k := by rw [hl]; simp
        rw [List.getElem?_range] at this
        · exact (Option.some.inj this).symm
        · have := congrArg List.length hl; simp at this; omega
      have hdl : done.length < n := by have := congrArg List.length hl; simp at this; omega
      obtain ⟨s3, r3, hs3, hr3, e3⟩ := pick_nat (n := 26) hs2 (by decide) (by decide)
      obtain ⟨s4, r4, hs4, hr4, e4⟩ := pick_nat (n := 5) hs3 (by decide) (by decide)
      have e3 : g_law_pick.m [s2, .int 26] = _ := e3
      have e4 : g_law_pick.m [s3, .int 5] = _ := e4
      have a1 := abc (r := (r3 : Int)) (by omega) (by omega)
      obtain ⟨t, a2, a3⟩ := tail_is hr4
      have hu : (sh + 37 * k) % 100 < 100 := Nat.mod_lt _ (by decide)
      have hc : (100 : Int) + ((sh : Int) + 37 * (k : Int)) % 100 = 100 + (((sh + 37 * k) % 100 : Nat) : Int) := by omega
      have b1 := str_is hu
      rw [← hc] at b1
      have b2 := dig hu
      rw [← hc] at b2
      have l3 : t.length ≤ 9 := by
        rw [len_cps]
        rcases a3 with e | e | e <;> rw [e] <;> simp
      have b3 := add_str (a := ⟨#[97 + (r3 : Int).toNat]⟩) (b := two ((sh + 37 * k) % 100)) (by rw [len_cps, len_cps]; unfold two; simp)
      have b4 := add_str (a := ⟨#[97 + (r3 : Int).toNat]⟩ ++ two ((sh + 37 * k) % 100)) (b := t) (by
        have : ((⟨#[97 + (r3 : Int).toNat]⟩ : Str) ++ two ((sh + 37 * k) % 100)).length = 3 := by rw [len_cps, cps_app]; unfold two; rfl
        omega)
      have b5 := app_strs (f := .str) (l := ns) (x := ⟨#[97 + (r3 : Int).toNat]⟩ ++ two ((sh + 37 * k) % 100) ++ t) (by omega)
      get_elem_tactic_extensible
      refine ⟨s4, _, some (.int k), _, rfl, hs4, by simp [hnl], fun i z hz => ?_⟩
      by_cases hi : i < ns.length
      · rw [List.getElem?_append_left hi] at hz
        exact hw i z hz
      · rw [List.getElem?_append_right (by omega)] at hz
        have hi0 : i - ns.length = 0 := by
          have := (List.getElem?_eq_some_iff.mp hz).1
          simp at this; exact this
        rw [hi0] at hz
        have hik : i = k := by omega
        subst hik
        cases hz
        refine ⟨97 + r3, t.cps.toList, ?_, by omega, a3, hu⟩
        rw [cps_app, cps_app]
        unfold two
        rw [Int.toNat_natCast]; rfl
    · rintro ρ ⟨s', ns, x, y, rfl, hs', hnl, hw⟩
      get_elem_tactic_extensible
      exact ⟨s', ns, hs', by simpa using hnl, hw, rfl, rfl⟩
  obtain ⟨d, ρ, e, s', ns, h1, h2, h3, rfl, rfl⟩ := key.ex
  exact ⟨s', ns, h1, h2, names_nodup (by omega) h3, fun z hz => by
    obtain ⟨i, hi, ei⟩ := List.getElem_of_mem hz
    exact (h3 i z (by rw [List.getElem?_eq_getElem hi, ei])).isW, e⟩

end
end Lw
end
section
set_option autoImplicit false
set_option Elab.async false
set_option linter.all false
set_option maxRecDepth 100000
set_option maxHeartbeats 4000000
namespace Lw
open PySem L2 DM
section

local macro_rules
  | `(tactic| decreasing_trivial_pre_omega) => `(tactic| ((with_reducible refine MapOk.isO (by assumption) ?_); decide))
--MAP
/-! ### drawn ties -/
theorem good_ties_is {s : D} {ps : List Str} (hs : SrcOk s) (hn : ps.Nodup) (hl : ps.length ≤ 60) : ∃ (s' : D) (ts : List (Str × Str)), SrcOk s' ∧ Ties ps ts ∧ ts.length ≤ 3600 ∧ g_law_good_ties.m [s, .lst (ps.map .str)] = .ok (.lst (ts.map pairD)) [some s', none] := by
  have key : We (g_law_good_ties.m [s, .lst (ps.map .str)]) (fun d ρ => ∃ (s' : D) (ts : List (Str × Str)), SrcOk s' ∧ Ties ps ts ∧ ts.length ≤ 3600 ∧ d = .lst (ts.map pairD) ∧ ρ = [some s', none]) NoE := by
    refine W_def m_law_good_ties rfl ?_
    unfold m_law_good_ties
    get_elem_tactic_extensible
    refine W_forL (f := .str) ps (fun done ρ => ∃ (s' : D) (ts : List (Str × Str)) (cs : List (List Str)) (x y z w : Option D), ρ = [some s', some (.lst (ps.map .str)), x, some (.lst (ts.map pairD)), some (.lst (cs.map fun c => .lst (c.map .str))), y, z, none] ∧ SrcOk s' ∧ Ties done ts ∧ ts.length ≤ done.length * 60 ∧ cs.length = done.length ∧ ∀ c ∈ cs, c ≠ [] ∧ c.Nodup ∧ ∀ q ∈ c, q ∈ done) ⟨s, [], [], none, none, none, none, rfl, hs, Ties.nil _, by simp, rfl, fun c h => nomatch h⟩ ?_ ?_
    · rintro done p rest ρ hl2 ⟨s1, ts, cs, x, y, z, w, rfl, hs1, ht, htl, hcl, hc⟩
      have hdl : done.length < ps.length := by have := congrArg List.length hl2; simp at this; omega
      have hd : done.Nodup ∧ p ∉ done := by
        rw [hl2] at hn
        have := List.nodup_append.mp hn
        exact ⟨this.1, fun z => this.2.2 _ z _ List.mem_cons_self rfl⟩
      have hne := ne_nil (f := fun c : List Str => D.lst (c.map .str)) (l := cs) fun c => pl_lstrs
      sizeOf_list_dec
      refine W_seqI (fun ρ => ∃ (s' : D) (sm : List Str) (z w : Option D), ρ = [some s', some (.lst (ps.map .str)), some (.str p), some (.lst (ts.map pairD)), some (.lst (cs.map fun c => .lst (c.map .str))), some (.lst (sm.map .str)), z, none] ∧ SrcOk s' ∧ sm.Nodup ∧ ∀ q ∈ sm, q ∈ done) ?_ ?_
      · get_elem_tactic_extensible
        refine Br.mk (fun e => ?_) fun e => ?_
        · have hcs : cs ≠ [] := by simpa using e
          obtain ⟨s2, r2, hs2, hr2, e2⟩ := pick_nat (n := 7) hs1 (by decide) (by decide)
          have e2 : g_law_pick.m [s1, .int 7] = _ := e2
          get_elem_tactic_extensible
          refine Br.mk (fun e => ?_) fun e => ?_
          · obtain ⟨s3, c, hs3, hc3, e3⟩ := of_map (f := fun c : List Str => D.lst (c.map .str)) hs2 hcs (by omega)
            obtain ⟨k1, k2, k3⟩ := hc c hc3
            have hlen : c.length ≤ 60 := Nat.le_trans (nodup_len k2 k3) (by omega)
            obtain ⟨s4, c', hs4, hp4, e4⟩ := mixed_map (f := .str) (l := c) hs3 (by omega)
            have hlen' := hp4.length_eq
            obtain ⟨s5, r5, hs5, hr5, e5⟩ := pick_nat (n := c'.length) hs4 (by have := List.length_pos_iff.mpr k1; omega) (by omega)
            rw [← List.length_map (f := D.str) (as := c')] at e5
            get_elem_tactic_extensible
            exact ⟨s5, c'.take (1 + r5), _, none, rfl, hs5, (List.take_sublist _ _).nodup (hp4.nodup_iff.mpr k2), fun q hq => k3 q (hp4.mem_iff.mp (List.mem_of_mem_take hq))⟩
          · get_elem_tactic_extensible
            exact ⟨s2, [], _, none, rfl, hs2, List.nodup_nil, fun _ h => nomatch h⟩
        · get_elem_tactic_extensible
          exact ⟨s1, [], _, none, rfl, hs1, List.nodup_nil, fun _ h => nomatch h⟩
      · rintro ρ1 ⟨s2, sm, z2, w2, rfl, hs2, hsn, hsd⟩
        have hsl : sm.length ≤ 60 := Nat.le_trans (nodup_len hsn hsd) (by omega)
        have a1 := add_lst (a := ts.map pairD) (b := sm.map fun q => pairD (q, p)) (by simp; omega)
        have a2 := add_lst (a := sm.map .str) (b := [.str p]) (by simp; omega)
        have a3 := app_is (l := cs.map fun c => D.lst (c.map .str)) (d := .lst (sm.map .str ++ [.str p])) (by simp; omega)
        get_elem_tactic_extensible
        refine W_lcA (f := .str) sm (fun q => pairD (q, p)) ?_ (fun q hq => ?_) rfl ?_
        · get_elem_tactic_extensible
        · get_elem_tactic_extensible
          refine ⟨rfl, ?_, fun _ => ?_⟩ <;> get_elem_tactic_extensible
        get_elem_tactic_extensible
        refine ⟨s2, ts ++ sm.map (fun q => (q, p)), cs ++ [sm ++ [p]], some (.str p), some (.lst (sm.map .str)), z2, none, by simp, hs2, ht.snoc hd.2 hsd hsn, by simp; omega, by simp [hcl], fun c hc' => ?_⟩
        rcases List.mem_append.mp hc' with h | h
        · obtain ⟨k1, k2, k3⟩ := hc c h
          exact ⟨k1, k2, fun q hq => List.mem_append_left _ (k3 q hq)⟩
        · have : c = sm ++ [p] := by simpa using h
          subst this
          refine ⟨by simp, List.nodup_append.mpr ⟨hsn, by simp, fun a ha b hb e => ?_⟩, fun q hq => ?_⟩
          · have : b = p := by simpa using hb
            subst this; subst e
            exact hd.2 (hsd _ ha)
          · rcases List.mem_append.mp hq with h | h
            · exact List.mem_append_left _ (hsd q h)
            · exact List.mem_append_right _ h
    · rintro ρ ⟨s1, ts, cs, x, y, z, w, rfl, hs1, ht, htl, hcl, hc⟩
      get_elem_tactic_extensible
      exact ⟨s1, ts, hs1, ht, by omega, rfl, rfl⟩
  obtain ⟨d, ρ, e, s', ts, h1, h2, h3, rfl, rfl⟩ := key.ex
  exact ⟨s', ts, h1, h2, h3, e⟩

end
end Lw
end
section
set_option autoImplicit false
set_option Elab.async false
set_option linter.all false
set_option maxRecDepth 100000
set_option maxHeartbeats 4000000
namespace Lw
open PySem L2 DM
section

local macro_rules
  | `(tactic| decreasing_trivial_pre_omega) => `(tactic| ((with_reducible refine MapOk.isO (by assumption) ?_); decide))
--MAP
theorem turned_is {s : D} {ps : List Str} {ts : List (Str × Str)} (hs : SrcOk s) (ht : Ties ps ts) (hl : ts.length ≤ 100000) : ∃ (s' : D) (ts' : List (Str × Str)), SrcOk s' ∧ Ties ps ts' ∧ ts'.length = ts.length ∧ (∀ x y, (x, y) ∈ ts' ∨ (y, x) ∈ ts' ↔ (x, y) ∈ ts ∨ (y, x) ∈ ts) ∧ g_law_turned_ties.m [s, .lst (ts.map pairD)] = .ok (.lst (ts'.map pairD)) [some s', none] := by
  obtain ⟨s1, tm, hs1, hp, e1⟩ := mixed_map (f := pairD) (l := ts) hs hl
  have key : We (g_law_turned_ties.m [s, .lst (ts.map pairD)]) (fun d ρ => ∃ (s' : D) (ts' : List (Str × Str)), SrcOk s' ∧ Turned tm ts' ∧ d = .lst (ts'.map pairD) ∧ ρ = [some s', none]) NoE := by
    refine W_def m_law_turned_ties rfl ?_
    unfold m_law_turned_ties
    get_elem_tactic_extensible
    refine W_lcI (f := pairD) (ρm := [some s1, some (.lst (ts.map pairD)), none]) tm (fun done acc ρ => ∃ (s' : D) (l : List (Str × Str)), ρ = [some s', some (.lst (ts.map pairD)), none] ∧ SrcOk s' ∧ acc = l.map pairD ∧ Turned done l) ?_ ⟨s1, [], rfl, hs1, rfl, .nil⟩ ?_ ?_
    · get_elem_tactic_extensible
    · rintro done ⟨p, q⟩ rest acc ρ hl2 ⟨s2, l, rfl, hs2, rfl, htu⟩
      obtain ⟨s3, r, hs3, hr, e3⟩ := pick_nat (n := 2) hs2 (by decide) (by decide)
      have e3 : g_law_pick.m [s2, .int 2] = _ := e3
      have hr2 : r = 0 ∨ r = 1 := by omega
      have hrev : revD (pairD (p, q)) = some (pairD (q, p)) := rfl
      have hi0 : idxD (.lst [pairD (p, q), pairD (q, p)]) (.int ((0 : Nat) : Int)) = some (pairD (p, q)) := idx_lst (by decide) rfl
      have hi1 : idxD (.lst [pairD (p, q), pairD (q, p)]) (.int ((1 : Nat) : Int)) = some (pairD (q, p)) := idx_lst (by decide) rfl
      rcases hr2 with rfl | rfl
      · get_elem_tactic_extensible
        exact ⟨s3, l ++ [(p, q)], rfl, hs3, by simp, turned_snoc htu (.inl rfl)⟩
      · get_elem_tactic_extensible
        exact ⟨s3, l ++ [(q, p)], rfl, hs3, by simp, turned_snoc htu (.inr rfl)⟩
    · rintro acc ρ' ⟨s2, l, rfl, hs2, rfl, htu⟩
      get_elem_tactic_extensible
      exact ⟨s2, l, hs2, htu, rfl, rfl⟩
  obtain ⟨d, ρ, e, s', ts', h1, h2, rfl, rfl⟩ := key.ex
  refine ⟨s', ts', h1, (ht.perm hp).turned h2, by rw [turned_len h2, hp.length_eq], fun x y => ?_, e⟩
  rw [turned_mem h2 x y, hp.mem_iff, hp.mem_iff]
theorem any_ties_is {s : D} {ps : List Str} {n : Nat} (hs : SrcOk s) (hn : ps.Nodup) (hl : ps.length ≤ 60) (h0 : 0 < n) (h1 : n ≤ 100) : ∃ (s' : D) (ts : List (Str × Str)), SrcOk s' ∧ Ties ps ts ∧ ts.length ≤ 3600 ∧ g_law_any_ties.m [s, .lst (ps.map .str), .int (n : Nat)] = .ok (.lst (ts.map pairD)) [some s', none, none] := by
  have key : We (g_law_any_ties.m [s, .lst (ps.map .str), .int (n : Nat)]) (fun d ρ => ∃ (s' : D) (ts : List (Str × Str)), SrcOk s' ∧ Ties ps ts ∧ ts.length ≤ 3600 ∧ d = .lst (ts.map pairD) ∧ ρ = [some s', none, none]) NoE := by
    have ho := okR_nat (n := ps.length) (by omega)
    rw [← List.length_map (f := D.str) (as := ps)] at ho
    refine W_def m_law_any_ties rfl ?_
    unfold m_law_any_ties
    get_elem_tactic_extensible
    rw [rangeD_nat, List.length_map]
    refine W_forL (List.range ps.length) (fun done ρ => ∃ (s' : D) (ts : List (Str × Str)) (x : Option D), ρ = [some s', some (.lst (ps.map .str)), some (.int n), some (.lst (ts.map pairD)), x, none] ∧ SrcOk s' ∧ Ties (ps.take done.length) ts ∧ ts.length ≤ done.length * 60) ⟨s, [], none, rfl, hs, Ties.nil _, by simp⟩ ?_ ?_
    · rintro done k rest ρ hl2 ⟨s1, ts, x, rfl, hs1, ht, htl⟩
      have hk := range_at hl2
      obtain ⟨hk1, hk2⟩ := hk
      subst hk1
      obtain ⟨p, hp⟩ : ∃ p, ps[done.length]? = some p := ⟨_, List.getElem?_eq_getElem hk2⟩
      have hpi : idxD (.lst (ps.map .str)) (.int (done.length : Nat)) = some (.str p) := idx_lst (by omega) (by simp [hp])
      have hnt := nodup_take hn hp
      get_elem_tactic_extensible
      refine W_lcI (f := .str) (ρm := [some s1, some (.lst (ps.map .str)), some (.int n), some (.lst (ts.map pairD)), some (.int (done.length : Nat)), none]) (ps.take done.length) (fun dn acc ρ => ∃ (s' : D) (l : List Str), ρ = [some s', some (.lst (ps.map .str)), some (.int n), some (.lst (ts.map pairD)), some (.int (done.length : Nat)), none] ∧ SrcOk s' ∧ acc = l.map (fun y => pairD (y, p)) ∧ l.Sublist dn) ?_ ⟨s1, [], rfl, hs1, rfl, List.Sublist.slnil⟩ ?_ ?_
      · get_elem_tactic_extensible
      · rintro dn y rs acc ρ hl3 ⟨s2, l, rfl, hs2, rfl, hsub⟩
        obtain ⟨s3, r, hs3, hr, e3⟩ := pick_nat (n := n) hs2 h0 (by omega)
        get_elem_tactic_extensible
        refine Br.mk (fun e => ?_) fun e => ?_
        · get_elem_tactic_extensible
          exact ⟨s3, l ++ [y], rfl, hs3, by simp, List.Sublist.append hsub (List.Sublist.refl _)⟩
        · get_elem_tactic_extensible
          exact ⟨s3, l, rfl, hs3, rfl, hsub.trans (List.sublist_append_left _ _)⟩
      · rintro acc ρ' ⟨s2, l, rfl, hs2, rfl, hsub⟩
        have hll : l.length ≤ 60 := Nat.le_trans hsub.length_le (by rw [List.length_take]; omega)
        have a1 := add_lst (a := ts.map pairD) (b := l.map fun y => pairD (y, p)) (by simp; omega)
        get_elem_tactic_extensible
        have ht2 := ht.snoc hnt (fun y hy => hsub.subset hy) (hsub.nodup ((List.take_sublist _ _).nodup hn))
        refine ⟨s2, ts ++ l.map (fun y => (y, p)), some (.int (done.length : Nat)), by simp, hs2, ?_, by simp; omega⟩
        have e : ps.take (done ++ [done.length]).length = ps.take done.length ++ [p] := by
          rw [List.length_append, List.length_singleton, List.take_add_one, hp]; rfl
        rw [e]; exact ht2
    · rintro ρ ⟨s1, ts, x, rfl, hs1, ht, htl⟩
      rw [List.length_range, List.take_length] at ht
      rw [List.length_range] at htl
      get_elem_tactic_extensible
      exact ⟨s1, ts, hs1, ht, by omega, rfl, rfl⟩
  obtain ⟨d, ρ, e, s', ts, h1, h2, h3, rfl, rfl⟩ := key.ex
  exact ⟨s', ts, h1, h2, h3, e⟩

end
end Lw
end
section
set_option autoImplicit false
set_option Elab.async false
set_option linter.all false
set_option maxRecDepth 100000
set_option maxHeartbeats 4000000
namespace Lw
open PySem L2 DM
section

local macro_rules
  | `(tactic| decreasing_trivial_pre_omega) => `(tactic| ((with_reducible refine MapOk.isO (by assumption) ?_); decide))
--MAP
def worldD (ps : List Str) (ts : List (Str × Str)) (d : D) : D := .dic [.inr "posts", .inr "ties", .inr "map"] [.lst (ps.map .str), .lst (ts.map pairD), d]
structure WorldOk (w : D) (ps : List Str) (ts : List (Str × Str)) : Prop where
  wd : ∀ p ∈ ps, IsW p
  nd : ps.Nodup
  ties : Ties ps ts
  len : ps.length ≤ 60
  tl : ts.length ≤ 3600
  eq : w = worldD ps ts (mapD ps (allRows ps ts))
theorem WorldOk.tok {w : D} {ps : List Str} {ts : List (Str × Str)} (h : WorldOk w ps ts) : TiesOk ps ts := ties_ok h.ties (by have := h.tl; omega)
theorem WorldOk.map {w : D} {ps : List Str} {ts : List (Str × Str)} (h : WorldOk w ps ts) : MapOk (mapD ps (allRows ps ts)) ps (nbOf ps ts) := made_ok h.wd h.nd h.tok (by have := h.len; omega)
theorem made_is {ps : List Str} {ts : List (Str × Str)} (hw : ∀ p ∈ ps, IsW p) (hn : ps.Nodup) (ht : Ties ps ts) (hl : ps.length ≤ 60) (htl : ts.length ≤ 3600) : ∃ w, WorldOk w ps ts ∧ g_law_made.m [.lst (ps.map .str), .lst (ts.map pairD)] = .ok w [none, none] := by
  refine ⟨_, ⟨hw, hn, ht, hl, htl, rfl⟩, ?_⟩
  have h1 := init_is hw hn (ties_ok ht (by omega)) (by omega)
  refine We.eq (W_def m_law_made rfl ?_)
  unfold m_law_made
  get_elem_tactic_extensible
theorem map_is {s : D} {n : Nat} (hs : SrcOk s) (h0 : 0 < n) (h1 : n ≤ 59) : ∃ (s' w : D) (ps : List Str) (ts : List (Str × Str)), SrcOk s' ∧ WorldOk w ps ts ∧ ps.length ≤ n ∧ g_law_map.m [s, .int (n : Nat)] = .ok w [some s', none] := by
  obtain ⟨s1, r, hs1, hr, e1⟩ := pick_nat (n := n) hs h0 (by omega)
  obtain ⟨s2, ps, hs2, hpl, hnd, hw, e2⟩ := names_is (n := 1 + r) hs1 (by omega)
  obtain ⟨s3, ts, hs3, ht, htl, e3⟩ := good_ties_is hs2 hnd (by omega)
  obtain ⟨s4, ts', hs4, ht', htl', _, e4⟩ := turned_is hs3 ht (by omega)
  obtain ⟨s5, ps', hs5, hp, e5⟩ := mixed_map (f := .str) (l := ps) hs4 (by omega)
  have hm := fun z => hp.mem_iff (a := z)
  obtain ⟨w, hw', e6⟩ := made_is (fun p h => hw p ((hm p).mp h)) (hp.nodup_iff.mpr hnd) (ht'.more fun p h => (hm p).mpr h) (by rw [hp.length_eq]; omega) (by omega)
  rw [show ((1 + r : Nat) : Int) = 1 + (r : Int) by omega] at e2
  refine ⟨s5, w, ps', ts', hs5, hw', by rw [hp.length_eq]; omega, ?_⟩
  refine We.eq (W_def m_law_map rfl ?_)
  unfold m_law_map
  get_elem_tactic_extensible
theorem any_map_is {s : D} {n : Nat} (hs : SrcOk s) (h0 : 0 < n) (h1 : n ≤ 59) : ∃ (s' w : D) (ps : List Str) (ts : List (Str × Str)), SrcOk s' ∧ WorldOk w ps ts ∧ ps.length ≤ n ∧ g_law_any_map.m [s, .int (n : Nat)] = .ok w [some s', none] := by
  obtain ⟨s1, r, hs1, hr, e1⟩ := pick_nat (n := n) hs h0 (by omega)
  obtain ⟨s2, ps, hs2, hpl, hnd, hw, e2⟩ := names_is (n := 1 + r) hs1 (by omega)
  obtain ⟨s3, r3, hs3, hr3, e3⟩ := pick_nat (n := 2) hs2 (by decide) (by decide)
  have e3 : g_law_pick.m [s2, .int 2] = _ := e3
  obtain ⟨s4, ts, hs4, ht, htl, e4⟩ := any_ties_is (n := 2 + r3) hs3 hnd (by omega) (by omega) (by omega)
  obtain ⟨s5, ts', hs5, ht', htl', _, e5⟩ := turned_is hs4 ht (by omega)
  obtain ⟨w, hw', e6⟩ := made_is hw hnd ht' (by omega) (by omega)
  rw [show ((1 + r : Nat) : Int) = 1 + (r : Int) by omega] at e2
  rw [show ((2 + r3 : Nat) : Int) = 2 + (r3 : Int) by omega] at e4
  refine ⟨s5, w, ps, ts', hs5, hw', by omega, ?_⟩
  refine We.eq (W_def m_law_any_map rfl ?_)
  unfold m_law_any_map
  get_elem_tactic_extensible
/-- the ring of the first k -/
def ringT (ps : List Str) (k : Nat) : List (Str × Str) := (List.range k).map fun n => (ps.getD n "", ps.getD ((n + 1) % k) "")
theorem getD_at {ps : List Str} {n : Nat} (h : n < ps.length) : ps[n]? = some (ps.getD n "") := by
  rw [List.getElem?_eq_getElem h, List.getD_eq_getElem?_getD, List.getElem?_eq_getElem h]; rfl
theorem getD_inj {ps : List Str} {i j : Nat} (hn : ps.Nodup) (hi : i < ps.length) (hj : j < ps.length) (e : ps.getD i "" = ps.getD j "") : i = j :=
  (List.getElem?_inj hi hn).mp (by rw [getD_at hi, getD_at hj, e])
theorem nxt {n k : Nat} (h : n < k) : (n + 1) % k = if n + 1 = k then 0 else n + 1 := by
  by_cases e : n + 1 = k
  · rw [if_pos e, e, Nat.mod_self]
  · rw [if_neg e, Nat.mod_eq_of_lt (by omega)]
theorem ring_ties {ps : List Str} {k : Nat} (hn : ps.Nodup) (h0 : 3 ≤ k) (h1 : k ≤ ps.length) : Ties (ps.take k) (ringT ps k) := by
  have mem : ∀ t ∈ ringT ps k, ∃ n, n < k ∧ t = (ps.getD n "", ps.getD ((n + 1) % k) "") := fun t ht => by
    obtain ⟨n, hn, rfl⟩ := List.mem_map.mp ht
    exact ⟨n, List.mem_range.mp hn, rfl⟩
  have lt : ∀ n, n < k → (n + 1) % k < k := fun n _ => Nat.mod_lt _ (by omega)
  have tk : ∀ n, n < k → ps.getD n "" ∈ ps.take k := fun n h => by
    have : (ps.take k)[n]? = some (ps.getD n "") := by rw [List.getElem?_take, if_pos h, getD_at (by omega)]
    exact List.mem_of_getElem? this
  refine ⟨fun t ht => ?_, ?_, fun t ht z => ?_⟩
  · obtain ⟨n, h, rfl⟩ := mem t ht
    refine ⟨fun e => ?_, tk n h, tk _ (lt n h)⟩
    have := getD_inj hn (by omega) (by have := lt n h; omega) e
    rw [nxt h] at this
    split at this <;> omega
  · unfold ringT
    refine nodup_map List.nodup_range fun x hx y hy e => ?_
    exact getD_inj hn (by have := List.mem_range.mp hx; omega) (by have := List.mem_range.mp hy; omega) (Prod.mk.inj e).1
  · obtain ⟨n, h, rfl⟩ := mem t ht
    obtain ⟨m, hm, e⟩ := mem _ z
    have e1 := getD_inj hn (by have := lt n h; omega) (by omega) (Prod.mk.inj e).1
    have e2 := getD_inj hn (by omega) (by have := lt m hm; omega) (Prod.mk.inj e).2
    rw [nxt h] at e1
    rw [nxt hm] at e2
    split at e1 <;> split at e2 <;> omega

end
end Lw
end
section
set_option autoImplicit false
set_option Elab.async false
set_option linter.all false
set_option maxRecDepth 100000
set_option maxHeartbeats 4000000
namespace Lw
open PySem L2 DM
section

local macro_rules
  | `(tactic| decreasing_trivial_pre_omega) => `(tactic| ((with_reducible refine MapOk.isO (by assumption) ?_); decide))
--MAP
theorem ring_map_is {s : D} {k m : Nat} (hs : SrcOk s) (h0 : 3 ≤ k) (h1 : k + m ≤ 60) : ∃ (s' w : D) (ps : List Str) (ts : List (Str × Str)), SrcOk s' ∧ WorldOk w ps ts ∧ ps.length = k + m ∧ g_law_ring_map.m [s, .int (k : Nat), .int (m : Nat)] = .ok w [some s', none, none] := by
  obtain ⟨s2, ps, hs2, hpl, hnd, hw, e2⟩ := names_is (n := k + m) hs (by omega)
  rw [show ((k + m : Nat) : Int) = (k : Int) + (m : Int) by omega] at e2
  have key : We (g_law_ring_map.m [s, .int (k : Nat), .int (m : Nat)]) (fun d ρ => ∃ (s' : D) (ps : List Str) (ts : List (Str × Str)), SrcOk s' ∧ WorldOk d ps ts ∧ ps.length = k + m ∧ ρ = [some s', none, none]) NoE := by
    have ho := okR_nat (n := k) (by omega)
    refine W_def m_law_ring_map rfl ?_
    unfold m_law_ring_map
    get_elem_tactic_extensible
    refine W_lcA (f := fun (n : Nat) => .int (n : Int)) (List.range k) (fun n => pairD (ps.getD n "", ps.getD ((n + 1) % k) "")) ?_ (fun n hn => ?_) rfl ?_
    · get_elem_tactic_extensible
      exact ⟨rangeD_nat k, rfl⟩
    · have hn := List.mem_range.mp hn
      have hx : (n + 1) % k < k := Nat.mod_lt _ (by omega)
      have i1 : idxD (.lst (ps.map .str)) (.int (n : Nat)) = some (.str (ps.getD n "")) := idx_lst (by omega) (by rw [Int.toNat_natCast, List.getElem?_map, getD_at (by omega)]; rfl)
      have i2 : idxD (.lst (ps.map .str)) (.int (((n : Int) + 1) % (k : Int))) = some (.str (ps.getD ((n + 1) % k) "")) := by
        rw [emod_cast]
        exact idx_lst (by omega) (by rw [Int.toNat_natCast, List.getElem?_map, getD_at (by omega)]; rfl)
      have i3 := mod_is (i := (n : Int) + 1) (j := (k : Int)) (by omega)
      get_elem_tactic_extensible
      refine ⟨rfl, ?_, fun _ => ?_⟩ <;> get_elem_tactic_extensible
    get_elem_tactic_extensible
    refine W_forL (f := .str) (ps.drop k) (fun done ρ => ∃ (s' : D) (ts : List (Str × Str)) (x : Option D), ρ = [some s', some (.int k), some (.int m), some (.lst (ps.map .str)), some (.lst (ts.map pairD)), x, none, none] ∧ SrcOk s' ∧ Ties (ps.take (k + done.length)) ts ∧ ts.length ≤ 60 + done.length * 60) ⟨s2, ringT ps k, none, ?_, hs2, by have := ring_ties (k := k) hnd h0 (by omega); simpa using this, ?_⟩ ?_ ?_
    · unfold ringT; rw [List.map_map]; rfl
    · unfold ringT; simp; omega
    · rintro done p rest ρ hl2 ⟨s3, ts, x, rfl, hs3, ht, htl⟩
      have hj : ps[k + done.length]? = some p := by
        have : (ps.drop k)[done.length]? = some p := by rw [hl2]; simp
        rwa [List.getElem?_drop] at this
      have hjl := (List.getElem?_eq_some_iff.mp hj).1
      have hpm : p ∈ ps := List.mem_of_getElem? hj
      obtain ⟨j, j1, j2, j3, _⟩ := findIdx_mem ps p hpm
      have hjk : j = k + done.length := (List.getElem?_inj j2 hnd).mp (j3.trans hj.symm)
      rw [hjk] at j1
      have pl : placeD (ps.map .str) (.str p) = some (k + done.length) := by rw [place_strs]; exact j1
      have hnt := nodup_take hnd hj
      get_elem_tactic_extensible
      refine W_lcI (f := .str) (ρm := [some s3, some (.int k), some (.int m), some (.lst (ps.map .str)), some (.lst (ts.map pairD)), some (.str p), none, none]) (ps.take (k + done.length)) (fun dn acc ρ => ∃ (s' : D) (l : List Str), ρ = [some s', some (.int k), some (.int m), some (.lst (ps.map .str)), some (.lst (ts.map pairD)), some (.str p), none, none] ∧ SrcOk s' ∧ acc = l.map (fun y => pairD (y, p)) ∧ l.Sublist dn) ?_ ⟨s3, [], rfl, hs3, rfl, List.Sublist.slnil⟩ ?_ ?_
      · get_elem_tactic_extensible
      · rintro dn y rs acc ρ hl3 ⟨s4, l, rfl, hs4, rfl, hsub⟩
        obtain ⟨s5, r, hs5, hr, e3⟩ := pick_nat (n := 3) hs4 (by decide) (by decide)
        have e3 : g_law_pick.m [s4, .int 3] = _ := e3
        get_elem_tactic_extensible
        refine Br.mk (fun e => ?_) fun e => ?_
        · get_elem_tactic_extensible
          exact ⟨s5, l ++ [y], rfl, hs5, by simp, List.Sublist.append hsub (List.Sublist.refl _)⟩
        · get_elem_tactic_extensible
          exact ⟨s5, l, rfl, hs5, rfl, hsub.trans (List.sublist_append_left _ _)⟩
      · rintro acc ρ' ⟨s4, l, rfl, hs4, rfl, hsub⟩
        have hll : l.length ≤ 60 := Nat.le_trans hsub.length_le (by rw [List.length_take]; omega)
        have a1 := add_lst (a := ts.map pairD) (b := l.map fun y => pairD (y, p)) (by simp; omega)
        get_elem_tactic_extensible
        have ht2 := ht.snoc hnt (fun y hy => hsub.subset hy) (hsub.nodup ((List.take_sublist _ _).nodup hnd))
        refine ⟨s4, ts ++ l.map (fun y => (y, p)), some (.str p), by simp, hs4, ?_, by simp; omega⟩
        have e : ps.take (k + (done ++ [p]).length) = ps.take (k + done.length) ++ [p] := by
          rw [List.length_append, List.length_singleton, ← Nat.add_assoc, List.take_add_one, hj]; rfl
        rw [e]; exact ht2
    · rintro ρ ⟨s3, ts, x, rfl, hs3, ht, htl⟩
      have hdl : (ps.drop k).length = m := by rw [List.length_drop]; omega
      rw [hdl, ← hpl, List.take_length] at ht
      rw [hdl] at htl
      obtain ⟨s4, ps', hs4, hp, e4⟩ := mixed_map (f := .str) (l := ps) hs3 (by omega)
      obtain ⟨s5, ts', hs5, ht', htl', _, e5⟩ := turned_is hs4 ht (by omega)
      have hm := fun z => hp.mem_iff (a := z)
      obtain ⟨w, hw', e6⟩ := made_is (fun p h => hw p ((hm p).mp h)) (hp.nodup_iff.mpr hnd) (ht'.more fun p h => (hm p).mpr h) (by rw [hp.length_eq]; omega) (by omega)
      get_elem_tactic_extensible
      exact ⟨s5, ps', ts', hs5, hw', by rw [hp.length_eq]; omega, rfl⟩
  obtain ⟨d, ρ, e, s', ps', ts', h1, h2, h3, rfl⟩ := key.ex
  exact ⟨s', d, ps', ts', h1, h2, h3, e⟩
end
end Lw
end
section
set_option autoImplicit false
set_option Elab.async false
set_option linter.all false
set_option maxRecDepth 100000
set_option maxHeartbeats 4000000
namespace Lw
open PySem L2 DM
section

local macro_rules
  | `(tactic| decreasing_trivial_pre_omega) => `(tactic| ((with_reducible refine MapOk.isO (by assumption) ?_); decide))
--MAP
def isn (ts : List (Str × Str)) (x y : Str) : Bool := decide (x = y) || (decide ((x, y) ∈ ts) || decide ((y, x) ∈ ts))
section
variable {ps : List Str} {ts : List (Str × Str)} {d : D}
def lawFr (ts : List (Str × Str)) (left : List Str) (x : Str) : Bool := nearAll (isn ts) (left.filter (isn ts x))
def optD : Option (List Str) → D
  | none => .non
  | some l => .lst (l.map .str)
end

end
end Lw
end
section
set_option autoImplicit false
set_option Elab.async false
set_option linter.all false
set_option maxRecDepth 100000
set_option maxHeartbeats 4000000
namespace Lw
open PySem L2 DM
section

local macro_rules
  | `(tactic| decreasing_trivial_pre_omega) => `(tactic| ((with_reducible refine MapOk.isO (by assumption) ?_); decide))
--MAP
section
variable {ps : List Str} {ts : List (Str × Str)} {d : D}
end
section
variable {w : D} {ps : List Str} {ts : List (Str × Str)}
end

end
end Lw
end
section
set_option autoImplicit false
set_option Elab.async false
set_option linter.all false
set_option maxRecDepth 100000
set_option maxHeartbeats 4000000
namespace Lw
open PySem L2 DM
section

local macro_rules
  | `(tactic| decreasing_trivial_pre_omega) => `(tactic| ((with_reducible refine MapOk.isO (by assumption) ?_); decide))
--MAP
theorem ext_map {α : Type} {f : α → D} {l m : List α} (h : l.length + m.length ≤ 100000) : extD (l.map f) [.lst (m.map f)] = some (.non, (l ++ m).map f) := by
  rw [ext_is (by simpa using h), List.map_append]
theorem len_map {α : Type} {f : α → D} {l : List α} (h : l.length ≤ 100000) : lenS (.lst (l.map f)) = some (.int (l.length : Nat)) := by
  have := sizeLine_big h
  simp [lenS, lenD]
section
variable {d : D} {ps : List Str} {nb : Str → Str → Bool}
theorem piece_of_is (h : MapOk d ps nb) (hb : ps.length ≤ 100) {p : Str} (hp : p ∈ ps) : ∃ l : List Str, g_piece_of.m [d, .str p] = .ok (.lst (l.map .str)) [none, none] ∧ l.Nodup ∧ ∀ x, x ∈ l ↔ x ∈ clsL nb ps p := by
  have key : We (g_piece_of.m [d, .str p]) (fun r ρ => ∃ l : List Str, r = .lst (l.map .str) ∧ ρ = [none, none] ∧ l.Nodup ∧ ∀ x, x ∈ l ↔ x ∈ clsL nb ps p) NoE := by
    refine W_def m_piece_of rfl ?_
    unfold m_piece_of
    get_elem_tactic_extensible
    refine W_while (fun n ρ => ∃ (found : List Str) (k : Nat), ρ = [some d, some (.str p), some (.lst (found.map .str)), some (.int k), none] ∧ k ≤ found.length ∧ n + k = ps.length + 1 ∧ found.Nodup ∧ (∀ x ∈ found, x ∈ clsL nb ps p) ∧ p ∈ found ∧ ∀ i a, i < k → found[i]? = some a → ∀ b, nb a b = true → b ∈ found) (ps.length + 1)
      ⟨[p], 0, rfl, by simp, by simp, by simp, by simpa using self_cls hp, by simp, fun i a hi => by omega⟩ ?_
    rintro n ρ ⟨found, k, rfl, hk, hn, hnd, hs, hpf, hc⟩
    have hlen : found.length ≤ ps.length := nodup_len hnd fun x hx => (mem_cls.mp (hs x hx)).1
    have h1 := len_map (f := .str) (l := found) (by omega)
    get_elem_tactic_extensible
    refine Br.mk (fun e => ?_) fun e => ?_
    · have hkl : k < found.length := by simpa using e
      have hi : idxD (.lst (found.map .str)) (.int (k : Nat)) = some (.str found[k]) := idx_nat hkl
      have hm : found[k] ∈ found := List.getElem_mem hkl
      have ha := mem_cls.mp (hs _ hm)
      have h2 := near_is h ha.1
      have h3 := ext_map (f := .str) (l := found) (m := (ps.filter (nb found[k])).filter fun y => !decide (y ∈ found)) (by
        have := List.length_filter_le (fun y => !decide (y ∈ found)) (ps.filter (nb found[k]))
        have := List.length_filter_le (nb found[k]) ps
        omega)
      get_elem_tactic_extensible
      refine W_lc (f := .str) (ps.filter (nb found[k])) (fun y => !decide (y ∈ found)) .str ?_ (fun y hy => ?_) rfl ?_
      · get_elem_tactic_extensible
      · get_elem_tactic_extensible
        refine ⟨rfl, ?_, fun _ => ?_⟩ <;> get_elem_tactic_extensible
      get_elem_tactic_extensible
      have hnew : ∀ b, b ∈ (ps.filter (nb found[k])).filter (fun y => !decide (y ∈ found)) ↔ b ∈ ps ∧ nb found[k] b = true ∧ b ∉ found := fun b => by
        simp only [List.mem_filter, Bool.not_eq_true', decide_eq_false_iff_not, and_assoc]
      refine ⟨n - 1, by omega, found ++ (ps.filter (nb found[k])).filter (fun y => !decide (y ∈ found)), k + 1, rfl, by rw [List.length_append]; omega, by omega, ?_, ?_, List.mem_append_left _ hpf, ?_⟩
      · exact List.nodup_append.mpr ⟨hnd, nodup_filter _ (nodup_filter _ h.nd), fun a ha b hb e => ((hnew b).mp hb).2.2 (e ▸ ha)⟩
      · intro x hx
        rcases List.mem_append.mp hx with z | z
        · exact hs x z
        · obtain ⟨z1, z2, _⟩ := (hnew x).mp z
          exact mem_cls.mpr ⟨z1, ha.2.trans (.step .refl z1 z2)⟩
      · intro i a hi e1 b hb
        have hb2 := (h.sub a b hb).2
        by_cases hik : i < k
        · rw [List.getElem?_append_left (by omega)] at e1
          exact List.mem_append_left _ (hc i a hik e1 b hb)
        · obtain rfl : i = k := by omega
          rw [List.getElem?_append_left hkl, List.getElem?_eq_getElem hkl] at e1
          cases e1
          by_cases hbf : b ∈ found
          · exact List.mem_append_left _ hbf
          · exact List.mem_append_right _ ((hnew b).mpr ⟨hb2, hb, hbf⟩)
    · get_elem_tactic_extensible
      have hkl : k = found.length := by
        have : ¬ k < found.length := by simpa using e
        omega
      refine ⟨found, rfl, rfl, hnd, fun x => ⟨hs x, fun hx => ?_⟩⟩
      refine (mem_cls.mp hx).2.closed (D := fun z => z ∈ found) hpf fun a b ha hb hab => ?_
      obtain ⟨i, hi, ei⟩ := List.getElem_of_mem ha
      exact hc i a (by omega) (by rw [List.getElem?_eq_getElem hi, ei]) b hab
  obtain ⟨r, ρ, e, l, rfl, rfl, h1, h2⟩ := key.ex
  exact ⟨l, e, h1, h2⟩
theorem pieces_of_is (h : MapOk d ps nb) (hb : ps.length ≤ 100) : g_pieces_of.m [d] = .ok (.lst ((pieces nb ps).map rowT)) [none] := by
  have h1 := posts_is h
  refine We.eq (W_def m_pieces_of rfl ?_)
  unfold m_pieces_of
  get_elem_tactic_extensible
  refine W_forL (f := .str) ps (fun done ρ => ∃ (f : List (List Str)) (met : List Str) (x y : Option D), ρ = [some d, x, some (.lst (f.map rowT)), some (.lst (met.map .str)), y, none] ∧ (∀ z, z ∈ met ↔ ∃ q ∈ f, z ∈ q) ∧ met.length ≤ 100 * done.length ∧ f.length ≤ done.length ∧ ∀ rest, ps = done ++ rest → pcsL (clsL nb ps) rest f = pieces nb ps)
    ⟨[], [], none, none, rfl, by simp, by simp, by simp, fun rest e => by rw [e]; rfl⟩ ?_ ?_
  · rintro done p rest ρ hl ⟨f, met, x, y, rfl, hm, hml, hfl, hp⟩
    have hdl : done.length < 100 := by have := congrArg List.length hl; simp at this; omega
    have hpp : p ∈ ps := by rw [hl]; simp
    have hp2 := hp (p :: rest) hl
    unfold pcsL at hp2
    get_elem_tactic_extensible
    refine Br.mk (fun e => ?_) fun e => ?_
    · have hno : p ∉ met := by simpa using e
      rw [if_neg (by
        rw [List.any_eq_true]
        rintro ⟨q, hq, k⟩
        exact hno ((hm p).mpr ⟨q, hq, by simpa using k⟩))] at hp2
      obtain ⟨l, e1, e2, e3⟩ := piece_of_is h hb hpp
      have hll : l.length ≤ ps.length := nodup_len e2 fun x hx => (mem_cls.mp ((e3 x).mp hx)).1
      have h3 := ext_map (f := .str) (l := met) (m := l) (by omega)
      have h4 : appD (f.map rowT) [.tup ((clsL nb ps p).map .str)] = some (.non, (f ++ [clsL nb ps p]).map rowT) := app_strs (f := rowT) (l := f) (x := clsL nb ps p) (by omega)
      get_elem_tactic_extensible
      refine W_lc (f := .str) ps (fun y => decide (y ∈ l)) .str ?_ (fun y hy => ?_) rfl ?_
      · get_elem_tactic_extensible
      · get_elem_tactic_extensible
        refine ⟨rfl, ?_, fun _ => ?_⟩ <;> get_elem_tactic_extensible
      have e4 : ps.filter (fun y => decide (y ∈ l)) = clsL nb ps p := by
        rw [← cls_filter]
        exact List.filter_congr fun x hx => by rw [Bool.eq_iff_iff]; simp [e3]
      rw [e4]
      get_elem_tactic_extensible
      refine ⟨_, _, _, _, rfl, fun z => ?_, by simp; omega, by simp; omega, fun r hr => ?_⟩
      · rw [List.mem_append, hm z, e3]
        constructor
        · rintro (⟨q, k1, k2⟩ | k)
          · exact ⟨q, List.mem_append_left _ k1, k2⟩
          · exact ⟨_, List.mem_append_right _ List.mem_cons_self, k⟩
        · rintro ⟨q, k1, k2⟩
          rcases List.mem_append.mp k1 with k | k
          · exact .inl ⟨q, k, k2⟩
          · rw [List.mem_singleton.mp k] at k2; exact .inr k2
      · have : r = rest := by rw [hl] at hr; simpa using hr.symm
        rw [this]; exact hp2
    · have hyes : p ∈ met := by simpa using e
      obtain ⟨q, hq, hpq⟩ := (hm p).mp hyes
      rw [if_pos (List.any_eq_true.mpr ⟨q, hq, by simpa using hpq⟩)] at hp2
      get_elem_tactic_extensible
      refine ⟨f, met, _, _, rfl, hm, by simp; omega, by simp; omega, fun r hr => ?_⟩
      have : r = rest := by rw [hl] at hr; simpa using hr.symm
      rw [this]; exact hp2
  · rintro ρ ⟨f, met, x, y, rfl, hm, hml, hfl, hp⟩
    have hp2 := hp [] (by simp)
    unfold pcsL at hp2
    get_elem_tactic_extensible
    rw [hp2]
    exact ⟨rfl, rfl⟩
end

end
end Lw
end
section
set_option autoImplicit false
set_option Elab.async false
set_option linter.all false
set_option maxRecDepth 100000
set_option maxHeartbeats 4000000
namespace Lw
open PySem L2 DM
section

local macro_rules
  | `(tactic| decreasing_trivial_pre_omega) => `(tactic| ((with_reducible refine MapOk.isO (by assumption) ?_); decide))
--MAP
def wordB (z : Str) : Bool := match z.cps.toList with
  | a :: t => decide (97 ≤ a) && decide (a ≤ 122) && (t.all fun c => (decide (97 ≤ c) && decide (c ≤ 122)) || (decide (48 ≤ c) && decide (c ≤ 57))) && decide (t.length ≤ 11)
  | [] => false
theorem wordB_is {z : Str} (h : wordB z = true) : IsW z := by
  unfold wordB at h
  split at h
  · rename_i a t e
    simp only [Bool.and_eq_true, decide_eq_true_eq, List.all_eq_true, Bool.or_eq_true] at h
    obtain ⟨⟨⟨h1, h2⟩, h3⟩, h4⟩ := h
    exact ⟨⟨a, t, e, ⟨h1, h2⟩, fun c hc => h3 c hc, h4⟩⟩
  · cases h
def wordsL : List Str := ["map", "a", "script", "abcdefghijkl", "none", "nones", "alpha1", "alpha2"]
theorem wordsL_ok : (∀ z ∈ wordsL, wordB z = true) ∧ wordsL.Nodup := by decide +kernel
theorem great_map_is {s : D} (hs : SrcOk s) : ∃ (s' w : D) (ps : List Str) (ts : List (Str × Str)), SrcOk s' ∧ WorldOk w ps ts ∧ g_law_great_map.m [s] = .ok w [some s'] := by
  have key : We (g_law_great_map.m [s]) (fun d ρ => ∃ (s' : D) (ps : List Str) (ts : List (Str × Str)), SrcOk s' ∧ WorldOk d ps ts ∧ ρ = [some s']) NoE := by
    obtain ⟨s1, r, hs1, hr, e1⟩ := pick_nat (n := 17) hs (by decide) (by decide)
    have e1 : g_law_pick.m [s, .int 17] = _ := e1
    obtain ⟨s2, ps, hs2, hpl, hnd, hw, e2⟩ := names_is (n := 12 + r) hs1 (by omega)
    rw [show ((12 + r : Nat) : Int) = 12 + (r : Int) by omega] at e2
    obtain ⟨s3, r3, hs3, hr3, e3⟩ := pick_nat (n := 2) hs2 (by decide) (by decide)
    have e3 : g_law_pick.m [s2, .int 2] = _ := e3
    have tail : ∀ (s4 : D) (ts : List (Str × Str)), SrcOk s4 → Ties ps ts → ts.length ≤ 3600 → ∃ (s5 s6 : D) (ps' : List Str) (ts' : List (Str × Str)) (w : D), SrcOk s6 ∧ WorldOk w ps' ts' ∧ g_law_mixed.m [s4, .lst (ps.map .str)] = .ok (.lst (ps'.map .str)) [some s5, none] ∧ g_law_turned_ties.m [s5, .lst (ts.map pairD)] = .ok (.lst (ts'.map pairD)) [some s6, none] ∧ g_law_made.m [.lst (ps'.map .str), .lst (ts'.map pairD)] = .ok w [none, none] := by
      intro s4 ts hs4 ht htl
      obtain ⟨s5, ps', hs5, hp, e5⟩ := mixed_map (f := .str) (l := ps) hs4 (by omega)
      obtain ⟨s6, ts', hs6, ht', htl', _, e6⟩ := turned_is hs5 ht (by omega)
      have hm := fun z => hp.mem_iff (a := z)
      obtain ⟨w, hw', e7⟩ := made_is (fun p h => hw p ((hm p).mp h)) (hp.nodup_iff.mpr hnd) (ht'.more fun p h => (hm p).mpr h) (by rw [hp.length_eq]; omega) (by omega)
      exact ⟨s5, s6, ps', ts', w, hs6, hw', e5, e6, e7⟩
    refine W_def m_law_great_map rfl ?_
    unfold m_law_great_map
    get_elem_tactic_extensible
    refine Br.mk (fun e => ?_) fun e => ?_
    · obtain ⟨s4, ts, hs4, ht, htl, e4⟩ := good_ties_is hs3 hnd (by omega)
      obtain ⟨s5, s6, ps', ts', w, hs6, hw', e5, e6, e7⟩ := tail s4 ts hs4 ht htl
      get_elem_tactic_extensible
      exact ⟨s6, ps', ts', hs6, hw', rfl⟩
    · obtain ⟨s4, ts, hs4, ht, htl, e4⟩ := any_ties_is (n := 8) hs3 hnd (by omega) (by decide) (by decide)
      have e4 : g_law_any_ties.m [s3, .lst (ps.map .str), .int 8] = _ := e4
      obtain ⟨s5, s6, ps', ts', w, hs6, hw', e5, e6, e7⟩ := tail s4 ts hs4 ht htl
      get_elem_tactic_extensible
      exact ⟨s6, ps', ts', hs6, hw', rfl⟩
  obtain ⟨d, ρ, e, s', ps', ts', h1, h2, rfl⟩ := key.ex
  exact ⟨s', d, ps', ts', h1, h2, e⟩
theorem drawn_map_is {s : D} (hs : SrcOk s) : ∃ (s' w : D) (ps : List Str) (ts : List (Str × Str)), SrcOk s' ∧ WorldOk w ps ts ∧ g_law_drawn_map.m [s] = .ok w [some s'] := by
  have key : We (g_law_drawn_map.m [s]) (fun d ρ => ∃ (s' : D) (ps : List Str) (ts : List (Str × Str)), SrcOk s' ∧ WorldOk d ps ts ∧ ρ = [some s']) NoE := by
    obtain ⟨s1, r, hs1, hr, e1⟩ := pick_nat (n := 8) hs (by decide) (by decide)
    have e1 : g_law_pick.m [s, .int 8] = _ := e1
    refine W_def m_law_drawn_map rfl ?_
    unfold m_law_drawn_map
    get_elem_tactic_extensible
    refine Br.mk (fun e => ?_) fun e => ?_
    · obtain ⟨s2, w, ps, ts, hs2, hw, hl, e2⟩ := map_is (n := 9) hs1 (by decide) (by decide)
      have e2 : g_law_map.m [s1, .int 9] = _ := e2
      get_elem_tactic_extensible
      exact ⟨s2, ps, ts, hs2, hw, rfl⟩
    get_elem_tactic_extensible
    refine Br.mk (fun e => ?_) fun e => ?_
    · obtain ⟨s2, w, ps, ts, hs2, hw, hl, e2⟩ := any_map_is (n := 8) hs1 (by decide) (by decide)
      have e2 : g_law_any_map.m [s1, .int 8] = _ := e2
      get_elem_tactic_extensible
      exact ⟨s2, ps, ts, hs2, hw, rfl⟩
    get_elem_tactic_extensible
    refine Br.mk (fun e => ?_) fun e => ?_
    · obtain ⟨s2, q, hs2, hq, e2⟩ := pick_nat (n := 4) hs1 (by decide) (by decide)
      have e2 : g_law_pick.m [s1, .int 4] = _ := e2
      obtain ⟨s3, u, hs3, hu, e3⟩ := pick_nat (n := 3) hs2 (by decide) (by decide)
      have e3 : g_law_pick.m [s2, .int 3] = _ := e3
      obtain ⟨s4, w, ps, ts, hs4, hw, hl, e4⟩ := ring_map_is (k := 4 + q) (m := u) hs3 (by omega) (by omega)
      rw [show ((4 + q : Nat) : Int) = 4 + (q : Int) by omega] at e4
      get_elem_tactic_extensible
      exact ⟨s4, ps, ts, hs4, hw, rfl⟩
    get_elem_tactic_extensible
    refine Br.mk (fun e => ?_) fun e => ?_
    · obtain ⟨s2, ps, hs2, hp, e2⟩ := mixed_map (f := .str) (l := wordsL) hs1 (by decide)
      have e2 : g_law_mixed.m [s1, .lst [.str "map", .str "a", .str "script", .str "abcdefghijkl", .str "none", .str "nones", .str "alpha1", .str "alpha2"]] = _ := e2
      obtain ⟨s3, u, hs3, hu, e3⟩ := pick_nat (n := 9) hs2 (by decide) (by decide)
      have e3 : g_law_pick.m [s2, .int 9] = _ := e3
      have hpl : ps.length = 8 := hp.length_eq
      have htk : (ps.take u).length ≤ 8 := by rw [List.length_take]; omega
      have hnd : (ps.take u).Nodup := (hp.nodup_iff.mpr wordsL_ok.2).sublist (List.take_sublist _ _)
      have hwd : ∀ z ∈ ps.take u, IsW z := fun z hz => wordB_is (wordsL_ok.1 z (hp.mem_iff.mp (List.mem_of_mem_take hz)))
      obtain ⟨s4, ts, hs4, ht, htl, e4⟩ := any_ties_is (n := 2) hs3 hnd (by omega) (by decide) (by decide)
      have e4 : g_law_any_ties.m [s3, .lst ((ps.take u).map .str), .int 2] = _ := e4
      obtain ⟨s5, ts', hs5, ht', htl', _, e5⟩ := turned_is hs4 ht (by omega)
      obtain ⟨w, hw', e6⟩ := made_is hwd hnd ht' (by omega) (by omega)
      get_elem_tactic_extensible
      exact ⟨s5, ps.take u, ts', hs5, hw', rfl⟩
    · obtain ⟨s2, q, hs2, hq, e2⟩ := pick_nat (n := 2) hs1 (by decide) (by decide)
      have e2 : g_law_pick.m [s1, .int 2] = _ := e2
      obtain ⟨w0, hw0, e0⟩ := made_is (ps := []) (ts := []) (fun _ h => nomatch h) List.nodup_nil (Ties.nil _) (by simp) (by simp)
      have e0 : g_law_made.m [.lst [], .lst []] = _ := e0
      obtain ⟨s3, w, ps, ts, hs3, hw, e3⟩ := great_map_is hs2
      get_elem_tactic_extensible
      refine Br.mk (fun e => ?_) fun e => ?_
      · get_elem_tactic_extensible
        exact ⟨s2, [], [], hs2, hw0, rfl⟩
      · get_elem_tactic_extensible
        exact ⟨s3, ps, ts, hs3, hw, rfl⟩
  obtain ⟨d, ρ, e, s', ps', ts', h1, h2, rfl⟩ := key.ex
  exact ⟨s', d, ps', ts', h1, h2, e⟩

end
end Lw
end
section
set_option autoImplicit false
set_option Elab.async false
set_option linter.all false
set_option maxRecDepth 100000
set_option maxHeartbeats 4000000
namespace Lw
open PySem L2 DM
section

local macro_rules
  | `(tactic| decreasing_trivial_pre_omega) => `(tactic| ((with_reducible refine MapOk.isO (by assumption) ?_); decide))
--MAP --DRV2
/-! ### maps made of maps; own == -/
local macro_rules
  | `(tactic| decreasing_trivial_pre_omega) => `(tactic| first | with_reducible exact isi_obj | with_reducible refine W_eqO ?_ | with_reducible refine W_lstS ?_ | with_reducible refine W_star ?_)
theorem isi_obj {c : String} {ns : List Str} {vs : List D} : isiOD c (.obj c ns vs) = some (.bl true) := if_pos rfl
theorem fnd_map {α : Type} {f : α → Key} {g : α → D} {k : Key} : ∀ {l : List α}, k ∈ l.map f → ∃ r ∈ l, f r = k ∧ fnd (l.map f) (l.map g) k = some (g r)
  | [], h => by cases h
  | a :: l, h => by
    by_cases e : f a = k
    · refine ⟨a, List.mem_cons_self, e, ?_⟩
      unfold fnd
      rw [List.map_cons, List.map_cons, List.zip_cons_cons, List.find?_cons]
      simp [e]
    · rw [List.map_cons, List.mem_cons] at h
      obtain ⟨r, h1, h2, h3⟩ := fnd_map (l := l) (g := g) (h.resolve_left fun z => e z.symm)
      refine ⟨r, List.mem_cons_of_mem _ h1, h2, ?_⟩
      unfold fnd at h3 ⊢
      rw [List.map_cons, List.map_cons, List.zip_cons_cons, List.find?_cons]
      have : decide (f a = k) = false := by simpa using e
      simp only [this]
      exact h3
theorem eqQ_dic {n : Nat} {ks ks' : List Key} {vs vs' : List D} (hl : ks.length = ks'.length) (h : ∀ k ∈ ks, entQ (eqQ n) ks vs ks' vs' k = some (some true)) : eqQ (n + 1) (.dic ks vs) (.dic ks' vs') = some true := by
  rw [eqQ]
  dsimp only [diO]
  rw [if_pos (List.all_eq_true.mpr fun k hk => by rw [h k hk]; rfl)]
  congr 1
  rw [Bool.and_eq_true]
  exact ⟨decide_eq_true hl, List.all_eq_true.mpr fun k hk => by rw [h k hk]; rfl⟩
theorem nodup_same {l l' : List Str} (hn : l.Nodup) (hn' : l'.Nodup) (h : ∀ y, y ∈ l ↔ y ∈ l') : l.length = l'.length := ((List.perm_ext_iff_of_nodup hn hn').mpr fun y => h y).length_eq
theorem eqQ_row {n : Nat} {l l' : List Str} (hn : l.Nodup) (hn' : l'.Nodup) (h : ∀ y, y ∈ l ↔ y ∈ l') : eqQ (n + 2) (rowD l) (rowD l') = some true := by
  unfold rowD
  refine eqQ_dic (by rw [List.length_map, List.length_map]; exact nodup_same hn hn' h) fun k hk => ?_
  have hk' : k ∈ l'.map (Sum.inr : Str → Key) := by
    obtain ⟨y, hy, rfl⟩ := List.mem_map.mp hk
    exact List.mem_map.mpr ⟨y, (h y).mp hy, rfl⟩
  obtain ⟨_, _, _, e1⟩ := fnd_map (g := fun _ => D.bl true) hk
  obtain ⟨_, _, _, e2⟩ := fnd_map (g := fun _ => D.bl true) hk'
  unfold entQ
  rw [e1, e2]
  rfl
theorem eqDG_near {rows rows' : List (Str × List Str)} (e : rows.map (·.1) = rows'.map (·.1)) (h : ∀ x l l', (x, l) ∈ rows → (x, l') ∈ rows' → l.Nodup ∧ l'.Nodup ∧ ∀ y, y ∈ l ↔ y ∈ l') : eqDG (nearD rows) (nearD rows') = some (.bl true) := by
  have key : eqQ 9 (nearD rows) (nearD rows') = some true := by
    unfold nearD
    have hl := congrArg List.length e
    rw [List.length_map, List.length_map] at hl
    refine eqQ_dic (by rw [List.length_map, List.length_map]; exact hl) fun k hk => ?_
    have hk' : k ∈ rows'.map fun r => (Sum.inr r.1 : Key) := by
      rw [show (fun r : Str × List Str => (Sum.inr r.1 : Key)) = Sum.inr ∘ (·.1) from rfl, ← List.map_map] at hk ⊢
      rw [← e]; exact hk
    obtain ⟨r, r1, r2, e1⟩ := fnd_map (g := fun r : Str × List Str => rowD r.2) hk
    obtain ⟨r', q1, q2, e2⟩ := fnd_map (g := fun r : Str × List Str => rowD r.2) hk'
    have e3 : r.1 = r'.1 := by rw [← q2] at r2; simpa using r2
    obtain ⟨n1, n2, n3⟩ := h r.1 r.2 r'.2 r1 (by rw [e3]; exact q1)
    unfold entQ
    rw [e1, e2]
    simp only [Option.bind_some, Option.map_some]
    rw [eqQ_row (n := 6) n1 n2 n3]
  unfold eqDG
  rw [key]
  rfl
theorem allRows_nodup {ps : List Str} (ts : List (Str × Str)) : ∀ r ∈ allRows ps ts, r.2.Nodup := by
  have put : ∀ {b : Str} {l : List Str}, l.Nodup → (putRow b l).Nodup := fun {b l} h => by
    unfold putRow
    split
    · exact h
    · rename_i hb
      exact List.nodup_append.mpr ⟨h, by simp, fun x hx y hy e => by rw [List.mem_singleton.mp hy] at e; exact hb (e ▸ hx)⟩
  have puts : ∀ {a b : Str} {rows : List (Str × List Str)}, (∀ r ∈ rows, r.2.Nodup) → ∀ r ∈ putRows rows a b, r.2.Nodup := fun {a b rows} h r hr => by
    unfold putRows at hr
    obtain ⟨r', h1, rfl⟩ := List.mem_map.mp hr
    split
    · exact put (h r' h1)
    · exact h r' h1
  unfold allRows
  suffices H : ∀ (ts : List (Str × Str)) (rows : List (Str × List Str)), (∀ r ∈ rows, r.2.Nodup) → ∀ r ∈ ts.foldl (fun rows t => putRows (putRows rows t.1 t.2) t.2 t.1) rows, r.2.Nodup from H ts _ fun r hr => by
    unfold startRows at hr
    obtain ⟨p, _, rfl⟩ := List.mem_map.mp hr
    simp
  intro ts
  induction ts with
  | nil => exact fun rows h => h
  | cons t ts ih => exact fun rows h => ih _ (puts (puts h))
section
variable {d d' : D} {ps ps' : List Str} {nb nb' : Str → Str → Bool}
theorem MapOk.same (h : MapOk d ps nb) (h' : MapOk d' ps nb') (e : ∀ x ∈ ps, ∀ y ∈ ps, nb x y = nb' x y) : nb = nb' := by
  funext x y
  by_cases hx : x ∈ ps ∧ y ∈ ps
  · exact e x hx.1 y hx.2
  · have h1 : nb x y = false := by rw [← Bool.not_eq_true]; exact fun z => hx (h.sub x y z)
    have h2 : nb' x y = false := by rw [← Bool.not_eq_true]; exact fun z => hx (h'.sub x y z)
    rw [h1, h2]
/-- a map that was made of ties -/
structure MapN (d : D) (ps : List Str) (nb : Str → Str → Bool) : Prop where
  ok : MapOk d ps nb
  ex : ∃ ts, d = mapD ps (allRows ps ts) ∧ ∀ x y, x ∈ ps → (nbR (allRows ps ts) x y ↔ nb x y = true)
theorem make_n {ts : List (Str × Str)} (hw : ∀ p ∈ ps, IsW p) (hn : ps.Nodup) (ht : TiesOk ps ts) (hl : ps.length ≤ 10000) : MapN (mapD ps (allRows ps ts)) ps (nbOf ps ts) :=
  ⟨made_ok hw hn ht hl, ts, rfl, fun x y hx => by rw [nbR_all ts fun t h => (ht.ne t h).2]; unfold nbOf; simp⟩
theorem row_one {rows : List (Str × List Str)} (hn : (rows.map (·.1)).Nodup) {x : Str} {l l' : List Str} (h : (x, l) ∈ rows) (h' : (x, l') ∈ rows) : l = l' := by
  obtain ⟨i, hi, ei⟩ := List.getElem_of_mem h
  obtain ⟨j, hj, ej⟩ := List.getElem_of_mem h'
  have : i = j := (List.getElem_inj (h₀ := by simpa using hi) (h₁ := by simpa using hj) hn).mp (by simp [ei, ej])
  subst this
  rw [ei] at ej
  exact (Prod.mk.inj ej).2
theorem map_eq_is (h : MapN d ps nb) (h' : MapN d' ps nb) : g_Map___eq__.m [d, d'] = .ok (.bl true) [none, none] := by
  obtain ⟨ts, rfl, hr⟩ := h.ex
  obtain ⟨ts', rfl, hr'⟩ := h'.ex
  have nod := h.ok.nd
  have e1 := allRows_fst (ps := ps) ts
  have e2 := allRows_fst (ps := ps) ts'
  have r1 : ∀ (ts : List (Str × Str)), (∀ x y, x ∈ ps → (nbR (allRows ps ts) x y ↔ nb x y = true)) → ∀ x l, (x, l) ∈ allRows ps ts → ∀ y, y ∈ l ↔ nb x y = true := by
    intro ts hr x l hl y
    have ef := allRows_fst (ps := ps) ts
    have hx : x ∈ ps := by rw [← ef]; exact List.mem_map.mpr ⟨_, hl, rfl⟩
    rw [← hr x y hx]
    unfold nbR
    constructor
    · exact fun z => ⟨_, hl, rfl, z⟩
    · rintro ⟨⟨a, r⟩, hm, rfl, z⟩
      rw [row_one (by rw [ef]; exact nod) hl hm]
      exact z
  have hq := eqDG_near (rows := allRows ps ts) (rows' := allRows ps ts') (by rw [e1, e2]) fun x l l' hl hl' => ⟨allRows_nodup ts _ hl, allRows_nodup ts' _ hl', fun y => by rw [r1 ts hr x l hl, r1 ts' hr' x l' hl']⟩
  have h1 : isiOD "Map" (mapD ps (allRows ps ts')) = some (.bl true) := isi_obj
  have h3 : eqD (.tup (ps.map .str)) (.tup (ps.map .str)) = some (.bl true) := by rw [eq_tstrs]; simp
  refine We.eq (W_def m_Map___eq__ rfl ?_)
  unfold m_Map___eq__
  get_elem_tactic_extensible
/-! ### ties put in, taken off -/
theorem in_two {x y u v : Str} {n : Bool} : inTB n (.tup [.str u, .str v]) (.tup [.tup [.str x, .str y], .tup [.str y, .str x]]) = some (.bl (isP x y u v != n)) := by
  rw [inT_pl (d := .tup [.str u, .str v]) rfl rfl]
  congr 3
  rw [Bool.eq_iff_iff, decide_eq_true_iff, isP_iff]
  simp only [List.mem_cons, D.tup.injEq, List.cons.injEq, D.str.injEq, and_true, List.not_mem_nil, or_false]
theorem ties_sub (h : MapOk d ps nb) (t : Str × Str → Bool) : Ties ps ((tiesR nb ps).filter t) := by
  refine ⟨fun x hx => ?_, nodup_filter _ (tiesR_nodup h.nd), fun x hx k => ?_⟩
  · obtain ⟨h1, h2⟩ := List.mem_filter.mp hx
    obtain ⟨a, b, c, e⟩ := tiesR_mem (show (x.1, x.2) ∈ tiesR nb ps from h1)
    exact ⟨e h.nd, a, b⟩
  · exact tiesR_anti h.nd (show (x.1, x.2) ∈ tiesR nb ps from (List.mem_filter.mp hx).1) (List.mem_filter.mp k).1
theorem ties_all (h : MapOk d ps nb) : Ties ps (tiesR nb ps) := by
  have := ties_sub h fun _ => true
  rwa [List.filter_eq_self.mpr fun _ _ => rfl] at this
theorem nb_ties (h : MapOk d ps nb) {x y : Str} (hxy : x ≠ y) : nb x y = true ↔ (x, y) ∈ tiesR nb ps ∨ (y, x) ∈ tiesR nb ps := by
  constructor
  · intro k
    obtain ⟨hx, hy⟩ := h.sub x y k
    exact tiesR_all h.sy hx hy hxy k
  · rintro (z | z)
    · exact (tiesR_mem z).2.2.1
    · rw [h.sy]; exact (tiesR_mem z).2.2.1
theorem nb_del (h : MapOk d ps nb) {a b : Str} (hab : a ≠ b) : nbOf ps ((tiesR nb ps).filter fun t => !isP a b t.1 t.2) = delT nb a b := by
  funext x y
  rw [Bool.eq_iff_iff]
  unfold nbOf delT
  simp only [Bool.or_eq_true, Bool.and_eq_true, decide_eq_true_eq, List.mem_filter]
  by_cases e : x = y
  · subst e
    have h1 : isP a b x x = false := by rw [← Bool.not_eq_true, isP_iff]; rintro (⟨z, w⟩ | ⟨z, w⟩); exact hab (z.symm.trans w); exact hab (w.symm.trans z)
    have h2 : (x, x) ∉ tiesR nb ps := fun z => (tiesR_mem z).2.2.2 h.nd rfl
    simp only [h1, h2, false_and, or_false, and_true, Bool.not_false]
    exact ⟨fun z => h.rf x z, fun z => (h.sub x x z).1⟩
  · rw [nb_ties h e, isP_sy (x := y)]
    simp only [e, and_false, false_or]
    rw [or_and_right]
theorem nb_add (h : MapOk d ps nb) {a b : Str} (ha : a ∈ ps) (hb : b ∈ ps) (hab : a ≠ b) : nbOf ps ((tiesR nb ps) ++ [(a, b)]) = addT nb a b := by
  funext x y
  rw [Bool.eq_iff_iff]
  unfold nbOf addT
  simp only [Bool.or_eq_true, Bool.and_eq_true, decide_eq_true_eq, List.mem_append, List.mem_singleton, Prod.mk.injEq, isP_iff]
  by_cases e : x = y
  · subst e
    have h2 : (x, x) ∉ tiesR nb ps := fun z => (tiesR_mem z).2.2.2 h.nd rfl
    simp only [h2, false_or, and_true]
    constructor
    · rintro (z | ⟨z, w⟩ | ⟨z, w⟩)
      · exact .inl (h.rf x z)
      · exact absurd (z.symm.trans w) hab
      · exact absurd (z.symm.trans w) hab
    · rintro (z | ⟨z, w⟩ | ⟨z, w⟩)
      · exact .inl (h.sub x x z).1
      · exact absurd (z.symm.trans w) hab
      · exact absurd (w.symm.trans z) hab
  · rw [nb_ties h e]
    simp only [e, and_false, false_or]
    constructor
    · rintro ((z | ⟨z, w⟩) | (z | ⟨z, w⟩))
      · exact .inl (.inl z)
      · exact .inr (.inl ⟨z, w⟩)
      · exact .inl (.inr z)
      · exact .inr (.inr ⟨w, z⟩)
    · rintro ((z | z) | ⟨z, w⟩ | ⟨z, w⟩)
      · exact .inl (.inl z)
      · exact .inr (.inl z)
      · exact .inl (.inr ⟨z, w⟩)
      · exact .inr (.inr ⟨w, z⟩)
theorem without_tie_is (h : MapOk d ps nb) (hb : ps.length ≤ 100) {x y : Str} (hx : x ∈ ps) (hy : y ∈ ps) (hxy : x ≠ y) : ∃ d', g_without_tie.m [d, .str x, .str y] = .ok d' [none, none, none] ∧ MapN d' ps (delT nb x y) := by
  have ll := tiesR_len (nb := nb) (l := ps)
  have lf := List.length_filter_le (fun t : Str × Str => !isP x y t.1 t.2) (tiesR nb ps)
  have hl : (tiesR nb ps).length ≤ 10000 := Nat.le_trans ll (Nat.mul_le_mul hb hb)
  have ht := ties_ok (ties_sub h fun t => !isP x y t.1 t.2) (by omega)
  have m := make_n h.wd h.nd ht h.len
  rw [nb_del h hxy] at m
  refine ⟨_, ?_, m⟩
  have h1 : g_Map_check.m [d, .lst [.str x, .str y]] = _ := check_is h [x, y] (by simp [hx, hy])
  have h2 := ties_is h hb
  have h3 := posts_is h
  have h4 := init_is h.wd h.nd ht h.len
  refine We.eq (W_def m_without_tie rfl ?_)
  unfold m_without_tie
  get_elem_tactic_extensible
  refine W_lc (f := pairD) (tiesR nb ps) (fun t => !isP x y t.1 t.2) pairD ?_ (fun t ht => ?_) rfl ?_
  · get_elem_tactic_extensible
  · have h5 := in_two (x := x) (y := y) (u := t.1) (v := t.2) (n := true)
    rw [show ∀ b : Bool, (b != true) = !b by intro b; cases b <;> rfl] at h5
    have h5 : inTB true (pairD t) (.tup [.tup [.str x, .str y], .tup [.str y, .str x]]) = _ := h5
    get_elem_tactic_extensible
    refine ⟨rfl, ?_, fun _ => ?_⟩ <;> get_elem_tactic_extensible
  get_elem_tactic_extensible
theorem del_add {nb : Str → Str → Bool} {a b : Str} : addT (delT nb a b) a b = addT nb a b := by
  funext x y
  show ((nb x y && !isP a b x y) || isP a b x y) = (nb x y || isP a b x y)
  cases nb x y <;> cases isP a b x y <;> rfl
theorem add_del {nb : Str → Str → Bool} {a b : Str} (h : nb a b = false) (h2 : nb b a = false) : delT (addT nb a b) a b = nb := by
  funext x y
  show ((nb x y || isP a b x y) && !isP a b x y) = nb x y
  cases q : isP a b x y with
  | false => rw [Bool.or_false]; simp
  | true =>
    rcases isP_iff.mp q with ⟨rfl, rfl⟩ | ⟨rfl, rfl⟩
    · rw [h]; rfl
    · rw [h2]; rfl
theorem with_tie_is (h : MapOk d ps nb) (hb : ps.length ≤ 60) {x y : Str} (hx : x ∈ ps) (hy : y ∈ ps) (hxy : x ≠ y) : ∃ d', g_with_tie.m [d, .str x, .str y] = .ok d' [none, none, none] ∧ MapN d' ps (addT nb x y) := by
  obtain ⟨d1, e1, m1⟩ := without_tie_is h (by omega) hx hy hxy
  have ll := tiesR_len (nb := delT nb x y) (l := ps)
  have hl : (tiesR (delT nb x y) ps).length ≤ 3600 := Nat.le_trans ll (Nat.mul_le_mul hb hb)
  have nx : delT nb x y x y = false := by
    unfold delT
    rw [show isP x y x y = true from isP_iff.mpr (.inl ⟨rfl, rfl⟩)]
    simp
  have ny : delT nb x y y x = false := by rw [m1.ok.sy]; exact nx
  have ht : TiesOk ps (tiesR (delT nb x y) ps ++ [(x, y)]) := by
    have t0 := ties_all m1.ok
    refine ⟨fun t ht => ?_, ?_, fun t ht k => ?_, by simp; omega⟩
    · rcases List.mem_append.mp ht with z | z
      · exact t0.ne t z
      · rw [List.mem_singleton.mp z]; exact ⟨hxy, hx, hy⟩
    · refine List.nodup_append.mpr ⟨t0.nd, by simp, fun a ha b hb e => ?_⟩
      rw [List.mem_singleton.mp hb] at e
      subst e
      rw [(tiesR_mem ha).2.2.1] at nx
      cases nx
    · rcases List.mem_append.mp ht with z | z
      · rcases List.mem_append.mp k with w | w
        · exact t0.na t z w
        · have := List.mem_singleton.mp w
          simp only [Prod.mk.injEq] at this
          have z2 : (t.1, t.2) ∈ tiesR (delT nb x y) ps := z
          rw [this.1, this.2] at z2
          rw [(tiesR_mem z2).2.2.1] at ny
          cases ny
      · rw [List.mem_singleton.mp z] at k
        rcases List.mem_append.mp k with w | w
        · rw [(tiesR_mem w).2.2.1] at ny
          cases ny
        · have := List.mem_singleton.mp w
          simp only [Prod.mk.injEq] at this
          exact hxy this.2
  have m := make_n h.wd h.nd ht h.len
  rw [nb_add m1.ok hx hy hxy, del_add] at m
  refine ⟨_, ?_, m⟩
  have o1 := m1.ok
  have h2 := ties_is m1.ok (by omega)
  have h3 := posts_is m1.ok
  have h4 := init_is h.wd h.nd ht h.len
  rw [List.map_append] at h4
  have h4 : g_Map___init__.m [.obj "Map" [] [], .lst (ps.map .str), .lst ((tiesR (delT nb x y) ps).map pairD ++ [.tup [.str x, .str y]])] = _ := h4
  have h5 : memsD (.lst ((tiesR (delT nb x y) ps).map pairD)) = some ((tiesR (delT nb x y) ps).map pairD) := rfl
  have h6 : szO ((tiesR (delT nb x y) ps).map pairD ++ [.tup [.str x, .str y]]) = some () := szO_is (by simp; omega)
  refine We.eq (W_def m_with_tie rfl ?_)
  unfold m_with_tie
  get_elem_tactic_extensible
  refine Br.of_f (by simp [hxy]) ?_
  get_elem_tactic_extensible
theorem both_near_is (h : MapOk d ps nb) {x y : Str} (hx : x ∈ ps) (hy : y ∈ ps) : g_both_near.m [d, .str x, .str y] = .ok (.lst ((ps.filter fun z => nb z y && nb x z).map .str)) [none, none, none] := by
  have h1 : g_Map_check.m [d, .lst [.str x, .str y]] = _ := check_is h [x, y] (by simp [hx, hy])
  have h2 := near_is h hx
  refine We.eq (W_def m_both_near rfl ?_)
  unfold m_both_near
  get_elem_tactic_extensible
  refine W_lc (f := .str) (ps.filter (nb x)) (fun z => nb z y) .str ?_ (fun z hz => ?_) rfl ?_
  · get_elem_tactic_extensible
  · have h3 := is_near_is h (List.mem_filter.mp hz).1 hy
    get_elem_tactic_extensible
    refine ⟨rfl, ?_, fun _ => ?_⟩ <;> get_elem_tactic_extensible
  get_elem_tactic_extensible
  rw [List.filter_filter]
  exact ⟨rfl, rfl⟩
end

end
end Lw
end
section
set_option autoImplicit false
set_option Elab.async false
set_option linter.all false
set_option maxRecDepth 100000
set_option maxHeartbeats 4000000
namespace Lw
open PySem L2 DM
section

local macro_rules
  | `(tactic| decreasing_trivial_pre_omega) => `(tactic| ((with_reducible refine MapOk.isO (by assumption) ?_); decide))
--MAP --DRV2
section
variable {d d' : D} {ps ps' : List Str} {nb nb' : Str → Str → Bool}
theorem joined_is (h : MapOk d ps nb) (h' : MapOk d' ps' nb') (dj : ∀ x ∈ ps, x ∉ ps') (hl : ps.length + ps'.length ≤ 60) : ∃ d2, g_joined_maps.m [d, d'] = .ok d2 [none, none] ∧ MapN d2 (ps ++ ps') (fun x y => nb x y || nb' x y) := by
  have l1 := tiesR_len (nb := nb) (l := ps)
  have l2 := tiesR_len (nb := nb') (l := ps')
  have l1 : (tiesR nb ps).length ≤ 60 * 60 := Nat.le_trans l1 (Nat.mul_le_mul (by omega) (by omega))
  have l2 : (tiesR nb' ps').length ≤ 60 * 60 := Nat.le_trans l2 (Nat.mul_le_mul (by omega) (by omega))
  have t1 := ties_all h
  have t2 := ties_all h'
  have hw : ∀ p ∈ ps ++ ps', IsW p := fun p hp => (List.mem_append.mp hp).elim (h.wd p) (h'.wd p)
  have hn : (ps ++ ps').Nodup := List.nodup_append.mpr ⟨h.nd, h'.nd, fun a ha b hb e => dj a ha (e ▸ hb)⟩
  have ht : TiesOk (ps ++ ps') (tiesR nb ps ++ tiesR nb' ps') := by
    refine ⟨fun t ht => ?_, ?_, fun t ht k => ?_, by simp; omega⟩
    · rcases List.mem_append.mp ht with z | z
      · obtain ⟨a, b, c⟩ := t1.ne t z
        exact ⟨a, List.mem_append_left _ b, List.mem_append_left _ c⟩
      · obtain ⟨a, b, c⟩ := t2.ne t z
        exact ⟨a, List.mem_append_right _ b, List.mem_append_right _ c⟩
    · exact List.nodup_append.mpr ⟨t1.nd, t2.nd, fun a ha b hb e => dj a.1 (t1.ne a ha).2.1 (e ▸ (t2.ne b hb).2.1)⟩
    · rcases List.mem_append.mp ht with z | z <;> rcases List.mem_append.mp k with w | w
      · exact t1.na t z w
      · exact dj _ (t1.ne t z).2.1 (t2.ne _ w).2.2
      · exact dj _ (t1.ne _ w).2.1 (t2.ne t z).2.2
      · exact t2.na t z w
  have m := make_n hw hn ht (by simp; omega)
  have e : nbOf (ps ++ ps') (tiesR nb ps ++ tiesR nb' ps') = fun x y => nb x y || nb' x y := by
    funext x y
    rw [Bool.eq_iff_iff]
    unfold nbOf
    simp only [Bool.or_eq_true, Bool.and_eq_true, decide_eq_true_eq, List.mem_append]
    by_cases e : x = y
    · subst e
      have h1 : (x, x) ∉ tiesR nb ps := fun z => (tiesR_mem z).2.2.2 h.nd rfl
      have h2 : (x, x) ∉ tiesR nb' ps' := fun z => (tiesR_mem z).2.2.2 h'.nd rfl
      simp only [h1, h2, or_false, and_true]
      exact ⟨fun z => z.imp (h.rf x) (h'.rf x), fun z => z.imp (fun z => (h.sub x x z).1) fun z => (h'.sub x x z).1⟩
    · rw [nb_ties h e, nb_ties h' e]
      simp only [e, and_false, false_or]
      constructor
      · rintro ((z | z) | z | z)
        · exact .inl (.inl z)
        · exact .inr (.inl z)
        · exact .inl (.inr z)
        · exact .inr (.inr z)
      · rintro ((z | z) | z | z)
        · exact .inl (.inl z)
        · exact .inr (.inl z)
        · exact .inl (.inr z)
        · exact .inr (.inr z)
  rw [e] at m
  refine ⟨_, ?_, m⟩
  have p1 := posts_is h
  have p2 := posts_is h'
  have p3 := ties_is h (by omega)
  have p4 := ties_is h' (by omega)
  have p5 := init_is hw hn ht (by simp; omega)
  have a1 := add_lst (a := ps.map D.str) (b := ps'.map D.str) (by simp; omega)
  have a2 := add_lst (a := (tiesR nb ps).map pairD) (b := (tiesR nb' ps').map pairD) (by simp; omega)
  rw [List.map_append, List.map_append] at p5
  refine We.eq (W_def m_joined_maps rfl ?_)
  unfold m_joined_maps
  get_elem_tactic_extensible
theorem part_n (h : MapOk d ps nb) (hb : ps.length ≤ 60) (l : List Str) (hl : ∀ x ∈ l, x ∈ ps) : ∃ d', g_part_map.m [d, .lst (l.map .str)] = .ok d' [none, none] ∧ MapN d' (ps.filter fun x => decide (x ∈ l)) (fun x y => nb x y && (decide (x ∈ l) && decide (y ∈ l))) := by
  have ll := tiesR_len (nb := nb) (l := ps)
  have ll : (tiesR nb ps).length ≤ 3600 := Nat.le_trans ll (Nat.mul_le_mul hb hb)
  have lf := List.length_filter_le (fun t : Str × Str => decide (t.1 ∈ l) && decide (t.2 ∈ l)) (tiesR nb ps)
  have lp := List.length_filter_le (fun x => decide (x ∈ l)) ps
  have t0 := ties_sub h fun t => decide (t.1 ∈ l) && decide (t.2 ∈ l)
  have hw : ∀ p ∈ ps.filter (fun x => decide (x ∈ l)), IsW p := fun p hp => h.wd p (List.mem_filter.mp hp).1
  have hn := nodup_filter (fun x => decide (x ∈ l)) h.nd
  have ht : TiesOk (ps.filter fun x => decide (x ∈ l)) ((tiesR nb ps).filter fun t => decide (t.1 ∈ l) && decide (t.2 ∈ l)) := by
    refine ⟨fun t ht => ?_, t0.nd, t0.na, by omega⟩
    obtain ⟨a, b, c⟩ := t0.ne t ht
    have := (List.mem_filter.mp ht).2
    rw [Bool.and_eq_true] at this
    exact ⟨a, List.mem_filter.mpr ⟨b, this.1⟩, List.mem_filter.mpr ⟨c, this.2⟩⟩
  have m := make_n hw hn ht (by omega)
  have e : nbOf (ps.filter fun x => decide (x ∈ l)) ((tiesR nb ps).filter fun t => decide (t.1 ∈ l) && decide (t.2 ∈ l)) = fun x y => nb x y && (decide (x ∈ l) && decide (y ∈ l)) := by
    funext x y
    rw [Bool.eq_iff_iff]
    unfold nbOf
    simp only [Bool.or_eq_true, Bool.and_eq_true, decide_eq_true_eq, List.mem_filter]
    by_cases e : x = y
    · subst e
      have h1 : (x, x) ∉ tiesR nb ps := fun z => (tiesR_mem z).2.2.2 h.nd rfl
      simp only [h1, false_and, or_false, and_true, and_self]
      exact ⟨fun z => ⟨h.rf x z.1, z.2⟩, fun z => ⟨(h.sub x x z.1).1, z.2⟩⟩
    · rw [nb_ties h e]
      simp only [e, and_false, false_or]
      constructor
      · rintro (⟨z, u, v⟩ | ⟨z, u, v⟩)
        · exact ⟨.inl z, u, v⟩
        · exact ⟨.inr z, v, u⟩
      · rintro ⟨z | z, u, v⟩
        · exact .inl ⟨z, u, v⟩
        · exact .inr ⟨z, v, u⟩
  rw [e] at m
  refine ⟨_, ?_, m⟩
  have h1 := check_is h l hl
  have h2 := ties_is h (by omega)
  have h3 := posts_is h
  have h5 := init_is hw hn ht (by omega)
  refine We.eq (W_def m_part_map rfl ?_)
  unfold m_part_map
  get_elem_tactic_extensible
  refine W_lc (f := pairD) (tiesR nb ps) (fun t => decide (t.1 ∈ l) && decide (t.2 ∈ l)) pairD ?_ (fun t ht => ?_) rfl ?_
  · get_elem_tactic_extensible
  · get_elem_tactic_extensible
    refine ⟨rfl, ?_, fun _ => ?_⟩
    · get_elem_tactic_extensible
      refine Br.mk (fun e => ?_) fun e => ?_
      · get_elem_tactic_extensible
        exact ⟨by simp at e; simp [e], rfl⟩
      · exact ⟨by simp at e; simp [e], rfl⟩
    · get_elem_tactic_extensible
  get_elem_tactic_extensible
  refine W_lc (f := .str) ps (fun x => decide (x ∈ l)) .str ?_ (fun t ht => ?_) rfl ?_
  · get_elem_tactic_extensible
  · get_elem_tactic_extensible
    refine ⟨rfl, ?_, fun _ => ?_⟩ <;> get_elem_tactic_extensible
  get_elem_tactic_extensible
end

end
end Lw
end
section
set_option autoImplicit false
set_option Elab.async false
set_option linter.all false
set_option maxRecDepth 100000
set_option maxHeartbeats 4000000
namespace Lw
open PySem L2 DM
section

local macro_rules
  | `(tactic| decreasing_trivial_pre_omega) => `(tactic| ((with_reducible refine MapOk.isO (by assumption) ?_); decide))
--MAP --DRV2
/-! ### a map made tie by tie -/
local macro_rules
  | `(tactic| decreasing_trivial_pre_omega) => `(tactic| first | with_reducible refine W_eqO ?_ | with_reducible exact f_posts | with_reducible exact f_ties | with_reducible exact f_map)
theorem _root_.DM.Ties.pre {ps : List Str} {l r : List (Str × Str)} (h : Ties ps (l ++ r)) : Ties ps l :=
  ⟨fun t ht => h.ne t (List.mem_append_left _ ht), (List.nodup_append.mp h.nd).1, fun t ht k => h.na t (List.mem_append_left _ ht) (List.mem_append_left _ k)⟩
theorem _root_.DM.Ties.new {ps : List Str} {l r : List (Str × Str)} {t : Str × Str} (h : Ties ps (l ++ t :: r)) : t ∉ l ∧ (t.2, t.1) ∉ l :=
  ⟨fun z => (List.nodup_append.mp h.nd).2.2 _ z _ List.mem_cons_self rfl, fun z => h.na t (List.mem_append_right _ List.mem_cons_self) (List.mem_append_left _ z)⟩
theorem nb_snoc {ps : List Str} {l : List (Str × Str)} {x y : Str} : addT (nbOf ps l) x y = nbOf ps (l ++ [(x, y)]) := by
  funext u v
  rw [Bool.eq_iff_iff]
  unfold addT nbOf
  simp only [Bool.or_eq_true, Bool.and_eq_true, decide_eq_true_eq, List.mem_append, List.mem_singleton, Prod.mk.injEq, isP_iff]
  constructor
  · rintro ((z | z | z) | z | z)
    · exact .inl z
    · exact .inr (.inl (.inl z))
    · exact .inr (.inr (.inl z))
    · exact .inr (.inl (.inr z))
    · exact .inr (.inr (.inr ⟨z.2, z.1⟩))
  · rintro (z | (z | z) | (z | z))
    · exact .inl (.inl z)
    · exact .inl (.inr (.inl z))
    · exact .inr (.inl z)
    · exact .inl (.inr (.inr z))
    · exact .inr (.inr ⟨z.2, z.1⟩)
theorem ne_rows {l r : List (List Str)} : neD (.lst (l.map rowT)) (.lst (r.map rowT)) = some (.bl (!decide (l = r))) := by
  have h : ∀ l : List (List Str), pl 60 (.lst (l.map rowT)) = true := fun l => by
    unfold pl
    rw [List.all_eq_true]
    intro x hx
    obtain ⟨_, _, rfl⟩ := List.mem_map.mp hx
    exact pl_tstrs (n := 58)
  rw [neD_pl (h l) (h r)]
  have inj : ∀ a b : List Str, rowT a = rowT b → a = b := fun a b e => by
    have : a.map D.str = b.map D.str := by injection e
    exact map_str_inj.mp this
  have : (D.lst (l.map rowT) = .lst (r.map rowT)) ↔ l = r := by
    constructor
    · intro e
      have e2 : l.map rowT = r.map rowT := by injection e
      exact (List.map_inj_right fun a b h => inj a b h).mp e2
    · rintro rfl; rfl
  simp only [this]
section
variable {d d' : D} {ps : List Str} {nb nb' : Str → Str → Bool}
theorem sides_eq (sy : ∀ x y, nb x y = nb y x) (hn : ps.Nodup) {x y : Str} (hx : x ∈ ps) (hy : y ∈ ps) :
    ((pieces nb ps).filter fun q => decide (x ∈ q)) = ((pieces nb ps).filter fun q => decide (y ∈ q)) ↔ Rch nb (fun z => z ∈ ps) x y := by
  constructor
  · intro e
    have h1 : clsL nb ps x ∈ (pieces nb ps).filter fun q => decide (x ∈ q) := List.mem_filter.mpr ⟨(mem_pieces sy hn).mpr ⟨x, hx, rfl⟩, by simpa using self_cls (nb := nb) hx⟩
    rw [e] at h1
    have h2 := (List.mem_filter.mp h1).2
    exact (cls_iff.mp (by simpa using h2)).2
  · intro k
    refine List.filter_congr fun q hq => ?_
    obtain ⟨p, hp, rfl⟩ := (mem_pieces sy hn).mp hq
    rw [Bool.eq_iff_iff, decide_eq_true_iff, decide_eq_true_iff, cls_iff, cls_iff]
    exact ⟨fun z => ⟨hy, z.2.trans k⟩, fun z => ⟨hx, z.2.trans (k.symm sy hx)⟩⟩
theorem pcs_len (hm : MapOk d ps nb) : (pieces nb ps).length ≤ ps.length := by
  have h := pieces_sum (nb := nb) hm.sy hm.nd
  have : ∀ f : List (List Str), (∀ q ∈ f, 1 ≤ q.length) → f.length ≤ (f.map (·.length)).sum := fun f => by
    induction f with
    | nil => exact fun _ => Nat.le_refl _
    | cons q f ih =>
      intro k
      have h1 := k q List.mem_cons_self
      have h2 := ih fun q hq => k q (List.mem_cons_of_mem _ hq)
      simp only [List.length_cons, List.map_cons, List.sum_cons]
      omega
  rw [← h]
  refine this _ fun q hq => ?_
  obtain ⟨p, hp, rfl⟩ := (mem_pieces hm.sy hm.nd).mp hq
  exact List.length_pos_of_mem (self_cls hp)
theorem grown_is {s w : D} {ts : List (Str × Str)} (hs : SrcOk s) (hw : WorldOk w ps ts) : ∃ s', SrcOk s' ∧ g_law_grown_right.m [s, w] = .ok (.bl true) [some s', none] := by
  have key : We (g_law_grown_right.m [s, w]) (fun d ρ => ∃ s', SrcOk s' ∧ d = .bl true ∧ ρ = [some s', none]) NoE := by
    have ew := hw.eq
    generalize hmd : mapD ps (allRows ps ts) = md at ew
    have hpl := hw.len
    have htl := hw.tl
    have t0 := hw.ties
    have wd := hw.wd
    have nd := hw.nd
    subst ew
    obtain ⟨s1, l0, hs1, hp, e1⟩ := mixed_map (f := pairD) (l := ts) hs (by omega)
    have t1 : Ties ps l0 := t0.perm hp
    have i1 : sliceD none (some (60 : Int)) (.lst (l0.map pairD)) = some (.lst ((l0.take 60).map pairD)) := slice_toN (n := 60)
    have t2 : Ties ps (l0.take 60) := by
      rw [← List.take_append_drop 60 l0] at t1
      exact t1.pre
    have ll : (l0.take 60).length ≤ 60 := by rw [List.length_take]; omega
    generalize l0.take 60 = l at i1 t2 ll
    have m0 := make_n wd nd (ties_ok (Ties.nil ps) (by simp)) (by omega)
    have e2 := init_is wd nd (ties_ok (Ties.nil ps) (by simp)) (by omega)
    have e2 : g_Map___init__.m [.obj "Map" [] [], .lst (ps.map .str), .lst []] = _ := e2
    have m9 := make_n wd nd (ties_ok t2 (by omega)) (by omega)
    have e9 := init_is wd nd (ties_ok t2 (by omega)) (by omega)
    refine W_def m_law_grown_right rfl ?_
    unfold m_law_grown_right
    get_elem_tactic_extensible
    refine W_forL (f := pairD) l (fun done ρ => ∃ (d : D) (x4 x5 x6 x7 x8 x9 : Option D), ρ = [some s1, some (worldD ps ts md), some d, some (.lst (l.map pairD)), x4, x5, x6, x7, x8, x9] ∧ MapN d ps (nbOf ps done)) ⟨_, none, none, none, none, none, none, rfl, m0⟩ ?_ ?_
    · rintro done ⟨x, y⟩ rest ρ hl ⟨d, x4, x5, x6, x7, x8, x9, rfl, m⟩
      have t3 := t2
      rw [hl] at t3
      obtain ⟨n1, n2⟩ := t3.new
      obtain ⟨hxy, hx, hy⟩ := t2.ne (x, y) (by rw [hl]; simp)
      dsimp only at hxy hx hy n1 n2
      have nx : nbOf ps done x y = false := by
        unfold nbOf
        simp [hxy, n1, n2]
      have ny : nbOf ps done y x = false := by rw [m.ok.sy]; exact nx
      have p1 := pieces_of_is m.ok (by omega)
      obtain ⟨d2, p2, m2⟩ := with_tie_is m.ok (by omega) hx hy hxy
      have p3 := pieces_of_is m2.ok (by omega)
      obtain ⟨d3, p4, m3⟩ := without_tie_is m2.ok (by omega) hy hx (Ne.symm hxy)
      have ed : delT (addT (nbOf ps done) x y) y x = nbOf ps done := by
        conv => rhs; rw [← add_del nx ny]
        funext u v
        unfold delT
        rw [isP_sw (a := y)]
      rw [ed] at m3
      have p5 := map_eq_is m3 m
      have p6 := both_near_is m2.ok hx hy
      have p7 := ties_is m2.ok (by omega)
      have p8 := ties_is m.ok (by omega)
      have q1 := tiesR_add (l := ps) hxy nx ny nd
      rw [if_pos ⟨hx, hy⟩] at q1
      have lt1 := tiesR_len (nb := nbOf ps done) (l := ps)
      have lt1 : (tiesR (nbOf ps done) ps).length ≤ 3600 := Nat.le_trans lt1 (Nat.mul_le_mul hpl hpl)
      have lp1 := pcs_len m.ok
      have lp2 := pcs_len m2.ok
      have j1 : lenS (.lst ((pieces (nbOf ps done) ps).map rowT)) = some (.int ((pieces (nbOf ps done) ps).length : Nat)) := len_map (by omega)
      have j2 : lenS (.lst ((pieces (addT (nbOf ps done) x y) ps).map rowT)) = some (.int ((pieces (addT (nbOf ps done) x y) ps).length : Nat)) := len_map (by omega)
      have j3 : lenS (.lst ((tiesR (nbOf ps done) ps).map pairD)) = some (.int ((tiesR (nbOf ps done) ps).length : Nat)) := len_map (by omega)
      have j4 : lenS (.lst ((tiesR (addT (nbOf ps done) x y) ps).map pairD)) = some (.int ((tiesR (addT (nbOf ps done) x y) ps).length : Nat)) := len_map (by omega)
      have r1 := ne_rows (l := (pieces (nbOf ps done) ps).filter fun q => decide (x ∈ q)) (r := (pieces (nbOf ps done) ps).filter fun q => decide (y ∈ q))
      have hcount : ((pieces (addT (nbOf ps done) x y) ps).length : Int) = (pieces (nbOf ps done) ps).length - (if (!decide (((pieces (nbOf ps done) ps).filter fun q => decide (x ∈ q)) = ((pieces (nbOf ps done) ps).filter fun q => decide (y ∈ q)))) = true then 1 else 0) := by
        by_cases k : Rch (nbOf ps done) (fun z => z ∈ ps) x y
        · rw [pieces_same m.ok.sy hx hy k, decide_eq_true ((sides_eq m.ok.sy nd hx hy).mpr k)]
          simp
        · have := pieces_less m.ok.sy nd hx hy k
          rw [decide_eq_false fun e => k ((sides_eq m.ok.sy nd hx hy).mp e)]
          simp
          omega
      have hnear : x ∈ ps.filter fun z => addT (nbOf ps done) x y z y && addT (nbOf ps done) x y x z := by
        refine List.mem_filter.mpr ⟨hx, ?_⟩
        rw [Bool.and_eq_true]
        refine ⟨?_, m2.ok.rf x hx⟩
        unfold addT
        rw [show isP x y x y = true from isP_iff.mpr (.inl ⟨rfl, rfl⟩), Bool.or_true]
      generalize hP : pieces (nbOf ps done) ps = P at *
      generalize hP2 : pieces (addT (nbOf ps done) x y) ps = P2 at *
      generalize hT : tiesR (nbOf ps done) ps = T at *
      generalize hT2 : tiesR (addT (nbOf ps done) x y) ps = T2 at *
      have o1 := m.ok
      have o2 := m2.ok
      have o3 := m3.ok
      get_elem_tactic_extensible
      refine W_lc (f := rowT) P (fun q => decide (x ∈ q)) rowT ?_ (fun q hq => ?_) rfl ?_
      · get_elem_tactic_extensible
      · get_elem_tactic_extensible
        refine ⟨rfl, ?_, fun _ => ?_⟩ <;> get_elem_tactic_extensible
      get_elem_tactic_extensible
      refine W_lc (f := rowT) P (fun q => decide (y ∈ q)) rowT ?_ (fun q hq => ?_) rfl ?_
      · get_elem_tactic_extensible
      · get_elem_tactic_extensible
        refine ⟨rfl, ?_, fun _ => ?_⟩ <;> get_elem_tactic_extensible
      get_elem_tactic_extensible
      refine Br.of_f (by rw [decide_eq_true hcount]; rfl) ?_
      get_elem_tactic_extensible
      refine Br.of_f (by rw [decide_eq_true hnear]; rfl) ?_
      get_elem_tactic_extensible
      refine Br.of_f (by rw [q1]; simp) ?_
      get_elem_tactic_extensible
      refine ⟨d2, _, _, _, _, _, _, rfl, ?_⟩
      rw [← nb_snoc]
      exact m2
    · rintro ρ ⟨d, x4, x5, x6, x7, x8, x9, rfl, m⟩
      have p5 := map_eq_is m m9
      have o1 := m.ok
      have o2 := m9.ok
      get_elem_tactic_extensible
      exact ⟨s1, hs1, rfl, rfl⟩
  obtain ⟨d, ρ, e, s', h1, rfl, rfl⟩ := key.ex
  exact ⟨s', h1, e⟩
/-! ### a map that loses its ties -/
def dropT (nb : Str → Str → Bool) (l : List (Str × Str)) : Str → Str → Bool := fun x y => nb x y && l.all fun t => !isP t.1 t.2 x y
theorem drop_snoc {l : List (Str × Str)} {x y : Str} : delT (dropT nb l) x y = dropT nb (l ++ [(x, y)]) := by
  funext u v
  show ((nb u v && l.all fun t => !isP t.1 t.2 u v) && !isP x y u v) = (nb u v && (l ++ [(x, y)]).all fun t => !isP t.1 t.2 u v)
  rw [List.all_append, Bool.and_assoc]
  simp
theorem shrunk_is {s w : D} {ts : List (Str × Str)} (hs : SrcOk s) (hw : WorldOk w ps ts) : ∃ s', SrcOk s' ∧ g_law_shrunk_right.m [s, w] = .ok (.bl true) [some s', none] := by
  have key : We (g_law_shrunk_right.m [s, w]) (fun d ρ => ∃ s', SrcOk s' ∧ d = .bl true ∧ ρ = [some s', none]) NoE := by
    have ew := hw.eq
    generalize hmd : mapD ps (allRows ps ts) = md at ew
    have hpl := hw.len
    have htl := hw.tl
    have t0 := hw.ties
    have wd := hw.wd
    have nd := hw.nd
    subst ew
    obtain ⟨s1, l0, hs1, hp, e1⟩ := mixed_map (f := pairD) (l := ts) hs (by omega)
    have t1 : Ties ps l0 := t0.perm hp
    have i1 : sliceD none (some (60 : Int)) (.lst (l0.map pairD)) = some (.lst ((l0.take 60).map pairD)) := slice_toN (n := 60)
    have t2 : Ties ps (l0.take 60) := by
      rw [← List.take_append_drop 60 l0] at t1
      exact t1.pre
    have ll : (l0.take 60).length ≤ 60 := by rw [List.length_take]; omega
    generalize l0.take 60 = l at i1 t2 ll
    have m0 := make_n wd nd (ties_ok t2 (by omega)) (by omega)
    have o0 := m0.ok
    have e2 := init_is wd nd (ties_ok t2 (by omega)) (by omega)
    have m9 := make_n wd nd (ties_ok (Ties.nil ps) (by simp)) (by omega)
    have e9 := init_is wd nd (ties_ok (Ties.nil ps) (by simp)) (by omega)
    have e9 : g_Map___init__.m [.obj "Map" [] [], .lst (ps.map .str), .lst []] = _ := e9
    have e3 := ties_is m0.ok (by omega)
    have lt1 := tiesR_len (nb := nbOf ps l) (l := ps)
    have lt1 : (tiesR (nbOf ps l) ps).length ≤ 3600 := Nat.le_trans lt1 (Nat.mul_le_mul hpl hpl)
    obtain ⟨s2, tl, hs2, hp2, e4⟩ := mixed_map (f := pairD) (l := tiesR (nbOf ps l) ps) hs1 (by omega)
    have t4 : Ties ps tl := (ties_all m0.ok).perm hp2
    have hsub : ∀ t ∈ tl, nbOf ps l t.1 t.2 = true := fun t ht => (tiesR_mem (show (t.1, t.2) ∈ tiesR (nbOf ps l) ps from hp2.mem_iff.mp ht)).2.2.1
    refine W_def m_law_shrunk_right rfl ?_
    unfold m_law_shrunk_right
    get_elem_tactic_extensible
    refine W_forL (f := pairD) tl (fun done ρ => ∃ (d : D) (x3 x4 x5 : Option D), ρ = [some s2, some (worldD ps ts md), some d, x3, x4, x5] ∧ MapN d ps (dropT (nbOf ps l) done)) ⟨_, none, none, none, rfl, ?_⟩ ?_ ?_
    · rw [show dropT (nbOf ps l) [] = nbOf ps l by funext x y; unfold dropT; simp]
      exact m0
    · rintro done ⟨x, y⟩ rest ρ hl ⟨d, x3, x4, x5, rfl, m⟩
      have t3 := t4
      rw [hl] at t3
      obtain ⟨n1, n2⟩ := t3.new
      obtain ⟨hxy, hx, hy⟩ := t4.ne (x, y) (by rw [hl]; simp)
      dsimp only at hxy hx hy n1 n2
      have hn : dropT (nbOf ps l) done x y = true := by
        unfold dropT
        rw [hsub (x, y) (by rw [hl]; simp), Bool.true_and, List.all_eq_true]
        intro t ht
        rw [Bool.not_eq_true', ← Bool.not_eq_true, isP_iff]
        rintro (⟨z, u⟩ | ⟨z, u⟩)
        · exact n1 (by rw [z, u]; exact ht)
        · exact n2 (by rw [z, u]; exact ht)
      obtain ⟨d2, p2, m2⟩ := without_tie_is m.ok (by omega) hy hx (Ne.symm hxy)
      have es : delT (dropT (nbOf ps l) done) y x = delT (dropT (nbOf ps l) done) x y := by
        funext u v
        unfold delT
        rw [isP_sw]
      rw [es] at m2
      obtain ⟨d3, p3, m3⟩ := with_tie_is m2.ok (by omega) hx hy hxy
      have ea : addT (delT (dropT (nbOf ps l) done) x y) x y = dropT (nbOf ps l) done := by
        rw [del_add]
        funext u v
        show (dropT (nbOf ps l) done u v || isP x y u v) = _
        cases q : isP x y u v with
        | false => rw [Bool.or_false]
        | true =>
          rcases isP_iff.mp q with ⟨rfl, rfl⟩ | ⟨rfl, rfl⟩
          · rw [hn]; rfl
          · rw [m.ok.sy, hn]; rfl
      have m4 := m3
      rw [ea] at m4
      have p5 := map_eq_is m4 m
      have p6 := pieces_of_is m.ok (by omega)
      have p7 := pieces_of_is m2.ok (by omega)
      have lp1 := pcs_len m.ok
      have lp2 := pcs_len m2.ok
      have j1 : lenS (.lst ((pieces (dropT (nbOf ps l) done) ps).map rowT)) = some (.int ((pieces (dropT (nbOf ps l) done) ps).length : Nat)) := len_map (by omega)
      have j2 : lenS (.lst ((pieces (delT (dropT (nbOf ps l) done) x y) ps).map rowT)) = some (.int ((pieces (delT (dropT (nbOf ps l) done) x y) ps).length : Nat)) := len_map (by omega)
      have hd : ((pieces (delT (dropT (nbOf ps l) done) x y) ps).length : Int) - (pieces (dropT (nbOf ps l) done) ps).length = 0 ∨ ((pieces (delT (dropT (nbOf ps l) done) x y) ps).length : Int) - (pieces (dropT (nbOf ps l) done) ps).length = 1 := by
        by_cases k : Rch (delT (dropT (nbOf ps l) done) x y) (fun z => z ∈ ps) x y
        · have := pieces_same m2.ok.sy hx hy k
          rw [ea] at this
          rw [this]
          exact .inl (by omega)
        · have := pieces_less m2.ok.sy nd hx hy k
          rw [ea] at this
          exact .inr (by omega)
      have hin : inB true (.int (((pieces (delT (dropT (nbOf ps l) done) x y) ps).length : Int) - (pieces (dropT (nbOf ps l) done) ps).length)) (.tup [.int 0, .int 1]) = some (.bl false) := by
        rcases hd with e | e <;> rw [e] <;> rfl
      have o1 := m.ok
      have o2 := m2.ok
      have o3 := m3.ok
      generalize hP : pieces (dropT (nbOf ps l) done) ps = P at *
      generalize hP2 : pieces (delT (dropT (nbOf ps l) done) x y) ps = P2 at *
      get_elem_tactic_extensible
      refine ⟨d2, _, _, _, rfl, ?_⟩
      rw [← drop_snoc]
      exact m2
    · rintro ρ ⟨d, x3, x4, x5, rfl, m⟩
      have hz : ∀ x ∈ ps, ∀ y ∈ ps, dropT (nbOf ps l) tl x y = true → x = y := fun x hx y hy k => by
        unfold dropT at k
        rw [Bool.and_eq_true, List.all_eq_true] at k
        obtain ⟨k1, k2⟩ := k
        by_cases e : x = y
        · exact e
        · rcases tiesR_all m0.ok.sy hx hy e k1 with z | z
          · have := k2 _ (hp2.mem_iff.mpr z)
            rw [show isP x y x y = true from isP_iff.mpr (.inl ⟨rfl, rfl⟩)] at this
            cases this
          · have := k2 _ (hp2.mem_iff.mpr z)
            rw [show isP y x x y = true from isP_iff.mpr (.inr ⟨rfl, rfl⟩)] at this
            cases this
      have ee : dropT (nbOf ps l) tl = nbOf ps [] := m.ok.same m9.ok fun x hx y hy => by
        by_cases e : x = y
        · subst e; rw [m.ok.rf x hx, m9.ok.rf x hx]
        · have h1 : dropT (nbOf ps l) tl x y = false := by rw [← Bool.not_eq_true]; exact fun z => e (hz x hx y hy z)
          have h2 : nbOf ps [] x y = false := by unfold nbOf; simp [e]
          rw [h1, h2]
      have p6 := pieces_of_is m.ok (by omega)
      have p8 := pieces_none m.ok.sy nd hz
      have j1 : lenS (.lst ((pieces (dropT (nbOf ps l) tl) ps).map rowT)) = some (.int ((pieces (dropT (nbOf ps l) tl) ps).length : Nat)) := len_map (by omega)
      have j2 : lenS (.lst (ps.map .str)) = some (.int (ps.length : Nat)) := len_map (by omega)
      rw [p8] at j1
      have m' := m
      rw [ee] at m'
      have p5 := map_eq_is m' m9
      have o1 := m.ok
      have o2 := m9.ok
      get_elem_tactic_extensible
      exact ⟨s2, hs2, by simp, rfl⟩
  obtain ⟨d, ρ, e, s', h1, rfl, rfl⟩ := key.ex
  exact ⟨s', h1, e⟩
end

end
end Lw
end
section
set_option autoImplicit false
set_option Elab.async false
set_option linter.all false
set_option maxRecDepth 100000
set_option maxHeartbeats 4000000
namespace Lw
open PySem L2 DM
section

local macro_rules
  | `(tactic| decreasing_trivial_pre_omega) => `(tactic| ((with_reducible refine MapOk.isO (by assumption) ?_); decide))
--MAP --DRV2
local macro_rules
  | `(tactic| decreasing_trivial_pre_omega) => `(tactic| first | with_reducible refine W_eqO ?_ | with_reducible exact f_posts | with_reducible exact f_ties | with_reducible exact f_map)
theorem ne_prl {l r : List (Str × Str)} : neD (.lst (l.map pairD)) (.lst (r.map pairD)) = some (.bl (!decide (l = r))) := by
  have h : ∀ l : List (Str × Str), pl 60 (.lst (l.map pairD)) = true := fun l => by
    unfold pl
    rw [List.all_eq_true]
    intro x hx
    obtain ⟨_, _, rfl⟩ := List.mem_map.mp hx
    exact pl_pr (n := 58)
  rw [neD_pl (h l) (h r)]
  have : (D.lst (l.map pairD) = .lst (r.map pairD)) ↔ l = r := by
    constructor
    · intro e
      have e2 : l.map pairD = r.map pairD := by injection e
      exact (List.map_inj_right fun a b h => pairD_inj.mp h).mp e2
    · rintro rfl; rfl
  simp only [this]
theorem some_of_is {s : D} {ps : List Str} (hs : SrcOk s) : ∃ (s' : D) (l : List Str), SrcOk s' ∧ (∀ x ∈ l, x ∈ ps) ∧ g_law_some_of.m [s, .lst (ps.map .str)] = .ok (.lst (l.map .str)) [some s', none] := by
  have key : We (g_law_some_of.m [s, .lst (ps.map .str)]) (fun d ρ => ∃ (s' : D) (l : List Str), SrcOk s' ∧ (∀ x ∈ l, x ∈ ps) ∧ d = .lst (l.map .str) ∧ ρ = [some s', none]) NoE := by
    refine W_def m_law_some_of rfl ?_
    unfold m_law_some_of
    get_elem_tactic_extensible
    refine W_lcI (f := .str) (ρm := [some s, some (.lst (ps.map .str)), none]) ps (fun dn acc ρ => ∃ (s1 : D) (l : List Str), ρ = [some s1, some (.lst (ps.map .str)), none] ∧ SrcOk s1 ∧ acc = l.map .str ∧ ∀ x ∈ l, x ∈ ps) ?_ ⟨s, [], rfl, hs, rfl, by simp⟩ ?_ ?_
    · get_elem_tactic_extensible
    · rintro dn t rs acc ρ hl3 ⟨s1, l, rfl, hs1, rfl, hl⟩
      have ht : t ∈ ps := by rw [hl3]; simp
      obtain ⟨s2, r, hs2, hr, e2⟩ := pick_nat (n := 2) hs1 (by decide) (by decide)
      have e2 : g_law_pick.m [s1, .int 2] = _ := e2
      get_elem_tactic_extensible
      refine Br.mk (fun e => ?_) fun e => ?_
      · get_elem_tactic_extensible
        refine ⟨s2, l ++ [t], rfl, hs2, by simp, fun x hx => ?_⟩
        rcases List.mem_append.mp hx with z | z
        · exact hl x z
        · rw [List.mem_singleton.mp z]; exact ht
      · get_elem_tactic_extensible
        exact ⟨s2, l, rfl, hs2, rfl, hl⟩
    · rintro acc ρ' ⟨s1, l, rfl, hs1, rfl, hl⟩
      get_elem_tactic_extensible
      exact ⟨s1, l, hs1, hl, rfl, rfl⟩
  obtain ⟨d, ρ, e, s', l, h1, h2, rfl, rfl⟩ := key.ex
  exact ⟨s', l, h1, h2, e⟩
section
variable {d d' : D} {ps : List Str} {nb nb' : Str → Str → Bool}
theorem cls_filter {p : Str} : (ps.filter fun x => decide (x ∈ clsL nb ps p)) = clsL nb ps p := by
  conv => rhs; unfold clsL
  refine List.filter_congr fun x hx => ?_
  rw [Bool.eq_iff_iff, decide_eq_true_iff, cls_iff, cmpB_iff]
  exact ⟨fun z => z.2, fun z => ⟨hx, z⟩⟩
theorem without_n (h : MapOk d ps nb) (hb : ps.length ≤ 60) (l : List Str) (hl : ∀ x ∈ l, x ∈ ps) : ∃ d', g_map_without.m [d, .lst (l.map .str)] = .ok d' [none, none] ∧ ∃ nb', MapN d' (ps.filter fun x => !decide (x ∈ l)) nb' ∧ ∀ x ∈ ps.filter (fun x => !decide (x ∈ l)), ∀ y ∈ ps.filter (fun x => !decide (x ∈ l)), nb x y = nb' x y := by
  obtain ⟨d', e, m⟩ := part_n h hb (ps.filter fun x => !decide (x ∈ l)) fun x hx => (List.mem_filter.mp hx).1
  have ef : (ps.filter fun x => decide (x ∈ ps.filter fun x => !decide (x ∈ l))) = ps.filter fun x => !decide (x ∈ l) := by
    refine List.filter_congr fun x hx => ?_
    rw [Bool.eq_iff_iff, decide_eq_true_iff, List.mem_filter]
    exact ⟨fun z => z.2, fun z => ⟨hx, z⟩⟩
  rw [ef] at m
  refine ⟨d', ?_, _, m, fun x hx y hy => ?_⟩
  · have h1 := check_is h l hl
    have h3 := posts_is h
    refine We.eq (W_def m_map_without rfl ?_)
    unfold m_map_without
    get_elem_tactic_extensible
    refine W_lc (f := .str) ps (fun x => !decide (x ∈ l)) .str ?_ (fun t ht => ?_) rfl ?_
    · get_elem_tactic_extensible
    · get_elem_tactic_extensible
      refine ⟨rfl, ?_, fun _ => ?_⟩ <;> get_elem_tactic_extensible
    get_elem_tactic_extensible
  · rw [decide_eq_true hx, decide_eq_true hy]; simp
theorem law_true (ns : List Int) (h : ns.length ≤ 63) : ∃ ρo, g_law.m [.scr ns] = .ok (.bl true) ρo := by
  have key : We (g_law.m [.scr ns]) (fun d ρ => d = .bl true) NoE := by
    obtain ⟨s0, hs0, e0⟩ := source_is ns
    have m0 := make_n (ps := []) (ts := []) (fun _ h => nomatch h) List.nodup_nil (ties_ok (Ties.nil _) (by simp)) (by simp)
    have e00 := init_is (ps := []) (ts := []) (fun _ h => nomatch h) List.nodup_nil (ties_ok (Ties.nil _) (by simp)) (by simp)
    have e00 : g_Map___init__.m [.obj "Map" [] [], .lst [], .lst []] = _ := e00
    refine W_def m_law rfl ?_
    unfold m_law
    get_elem_tactic_extensible
    refine W_forL (f := fun (n : Nat) => .int (n : Int)) (List.range 3) (fun done ρ => ∃ (s : D) (a2 a3 a4 a5 a6 a7 a8 a9 : Option D), ρ = [some (.scr ns), some s, a2, a3, a4, a5, a6, a7, a8, a9] ∧ SrcOk s) ⟨s0, none, none, none, none, none, none, none, none, rfl, hs0⟩ ?_ ?_
    · rintro done k rest ρ hl2 ⟨s, a2, a3, a4, a5, a6, a7, a8, a9, rfl, hs⟩
      obtain ⟨s1, w, ps, ts, hs1, hw, e1⟩ := drawn_map_is hs
      obtain ⟨s2, hs2, e2⟩ := grown_is hs1 hw
      obtain ⟨s3, hs3, e3⟩ := shrunk_is hs2 hw
      have ew := hw.eq
      have wd := hw.wd
      have nd := hw.nd
      have hpl := hw.len
      have m := make_n wd nd (ties_ok hw.ties (by have := hw.tl; omega)) (by omega)
      generalize hmd : mapD ps (allRows ps ts) = md at ew m
      generalize hnb : nbOf ps ts = nb at m
      subst ew
      have o := m.ok
      have p1 := pieces_of_is m.ok (by omega)
      obtain ⟨k1, k2⟩ := pieces_ok (nb := nb) m.ok.sy nd
      have hPm : ∀ q, q ∈ pieces nb ps ↔ ∃ p ∈ ps, q = clsL nb ps p := fun q => mem_pieces m.ok.sy nd
      have hW : (pieces nb ps).flatten.Perm ps := (List.perm_ext_iff_of_nodup k1.nd nd).mpr fun x => by
        rw [List.mem_flatten]
        constructor
        · rintro ⟨q, hq, hx⟩
          obtain ⟨p, hp, rfl⟩ := k1.cl q hq
          exact (cls_iff.mp hx).1
        · intro hx
          obtain ⟨q, hq, hx⟩ := k2 x hx
          exact ⟨q, hq, hx⟩
      generalize hP : pieces nb ps = P at *
      get_elem_tactic_extensible
      refine W_forL (f := rowT) P (fun done2 ρ => ∃ (dW : D) (b4 : Option D), ρ = [some (.scr ns), some s3, some (.int (k : Nat)), some (worldD ps ts md), b4, a5, a6, some md, some dW, a9] ∧ MapN dW done2.flatten (fun x y => nb x y && decide (x ∈ done2.flatten))) ⟨_, a4, rfl, ?_⟩ ?_ ?_
      · rw [show (fun x y => nb x y && decide (x ∈ ([] : List (List Str)).flatten)) = nbOf [] [] by funext x y; unfold nbOf; simp]
        exact m0
      · rintro done2 q rest2 ρ hl3 ⟨dW, b4, rfl, mW⟩
        have hq : q ∈ P := by rw [hl3]; simp
        obtain ⟨p, hp, rfl⟩ := (hPm q).mp hq
        have hqs : ∀ x ∈ clsL nb ps p, x ∈ ps := fun x hx => (cls_iff.mp hx).1
        obtain ⟨d', e4, mq⟩ := part_n m.ok hpl _ hqs
        rw [cls_filter] at mq
        have hfl : (done2.flatten ++ clsL nb ps p ++ rest2.flatten).Nodup := by
          have := k1.nd
          rw [hl3] at this
          simpa [List.append_assoc] using this
        have dj : ∀ x ∈ done2.flatten, x ∉ clsL nb ps p := fun x hx hx' => (List.nodup_append.mp (List.nodup_append.mp hfl).1).2.2 x hx x hx' rfl
        have hlen : done2.flatten.length + (clsL nb ps p).length ≤ 60 := by
          have e1 : P.flatten.length = (done2.flatten ++ clsL nb ps p ++ rest2.flatten).length := by rw [hl3]; simp [List.append_assoc]
          have e2 := hW.length_eq
          simp only [List.length_append] at e1
          omega
        obtain ⟨d2, e5, m2⟩ := joined_is mW.ok mq.ok dj hlen
        have j1 : listD (rowT (clsL nb ps p)) = some (.lst ((clsL nb ps p).map .str)) := rfl
        have oW := mW.ok
        get_elem_tactic_extensible
        refine ⟨d2, _, rfl, ?_⟩
        rw [List.flatten_append, List.flatten_singleton]
        have ef : (fun x y => nb x y && decide (x ∈ done2.flatten ++ clsL nb ps p)) = fun x y => (nb x y && decide (x ∈ done2.flatten)) || (nb x y && (decide (x ∈ clsL nb ps p) && decide (y ∈ clsL nb ps p))) := by
          funext x y
          rw [Bool.eq_iff_iff]
          simp only [Bool.and_eq_true, Bool.or_eq_true, decide_eq_true_eq, List.mem_append]
          constructor
          · rintro ⟨z, w | w⟩
            · exact .inl ⟨z, w⟩
            · obtain ⟨w1, w2⟩ := cls_iff.mp w
              have hy := (m.ok.sub x y z).2
              exact .inr ⟨z, w, cls_iff.mpr ⟨hy, .step w2 hy z⟩⟩
          · rintro (⟨z, w⟩ | ⟨z, w, _⟩)
            · exact ⟨z, .inl w⟩
            · exact ⟨z, .inr w⟩
        rw [ef]
        exact m2
      · rintro ρ ⟨dW, b4, rfl, mW⟩
        have ef : (fun x y => nb x y && decide (x ∈ P.flatten)) = nb := by
          funext x y
          cases q : nb x y with
          | false => rfl
          | true => rw [decide_eq_true (hW.mem_iff.mpr (m.ok.sub x y q).1)]; rfl
        rw [ef] at mW
        generalize P.flatten = W at hW mW
        have hWl : W.length ≤ 60 := by rw [hW.length_eq]; exact hpl
        have oW := mW.ok
        have q1 := posts_is oW
        obtain ⟨d2, q2, m2⟩ := part_n oW hWl W fun x hx => hx
        rw [show (W.filter fun x => decide (x ∈ W)) = W from List.filter_eq_self.mpr fun x hx => by simpa using hx] at m2
        have ef2 : (fun x y => nb x y && (decide (x ∈ W) && decide (y ∈ W))) = nb := by
          funext x y
          cases q : nb x y with
          | false => rfl
          | true =>
            obtain ⟨z1, z2⟩ := m.ok.sub x y q
            rw [decide_eq_true (hW.mem_iff.mpr z1), decide_eq_true (hW.mem_iff.mpr z2)]; rfl
        rw [ef2] at m2
        have o2 := m2.ok
        have q3 := map_eq_is m2 mW
        have q4 := sort_lst (l := W)
        have q5 := sort_lst (l := ps)
        rw [← sortStr_perm hW] at q5
        have q6 := ne_strs (l := sortStr W) (r := sortStr W)
        rw [decide_eq_true rfl] at q6
        have q7 := ties_is o (by omega)
        have q8 := ties_is oW (by omega)
        have nn : neD (.lst (([] : List (Str × Str)).map pairD)) (.lst []) = some (.bl false) := by have := ne_nil (f := pairD) (l := []) (fun _ => pl_pr (n := 58)); simpa using this
        have tW := ties_all oW
        have tW' : Ties ps (tiesR nb W) := tW.more fun x hx => hW.mem_iff.mp hx
        have lW := tiesR_len (nb := nb) (l := W)
        have lW : (tiesR nb W).length ≤ 3600 := Nat.le_trans lW (Nat.mul_le_mul hWl hWl)
        have lP := tiesR_perm m.ok.sy hW
        have q9 := init_is wd nd (ties_ok tW' (by omega)) (by omega)
        have m9 := make_n wd nd (ties_ok tW' (by omega)) (by omega)
        have e9 : nbOf ps (tiesR nb W) = nb := m9.ok.same m.ok fun x hx y hy => by
          by_cases e : x = y
          · subst e; rw [m9.ok.rf x hx, m.ok.rf x hx]
          · rw [Bool.eq_iff_iff, nb_ties oW e]
            unfold nbOf
            simp [e]
        rw [e9] at m9
        have o9 := m9.ok
        have q10 := map_eq_is m9 m
        have j1 : lenS (.lst ((tiesR nb W).map pairD)) = some (.int ((tiesR nb W).length : Nat)) := len_map (by omega)
        have j2 : lenS (.lst ((tiesR nb ps).map pairD)) = some (.int ((tiesR nb ps).length : Nat)) := len_map (by omega)
        rw [← lP] at j2
        obtain ⟨s4, l, hs4, hl, e6⟩ := some_of_is (ps := ps) hs3
        obtain ⟨d3, e7, nb3, m3, h3⟩ := without_n m.ok hpl l hl
        have o3 := m3.ok
        have hl3 := List.length_filter_le (fun x => !decide (x ∈ l)) ps
        have q11 := ties_is o3 (by omega)
        have e11 : tiesR nb3 (ps.filter fun x => !decide (x ∈ l)) = (tiesR nb ps).filter fun p => !decide (p.1 ∈ l) && !decide (p.2 ∈ l) := by
          rw [← tiesR_filter (fun x => !decide (x ∈ l))]
          exact (tiesR_congr h3).symm
        rw [e11] at q11
        have q12 := ne_prl (l := (tiesR nb ps).filter fun p => !decide (p.1 ∈ l) && !decide (p.2 ∈ l)) (r := (tiesR nb ps).filter fun p => !decide (p.1 ∈ l) && !decide (p.2 ∈ l))
        rw [decide_eq_true rfl] at q12
        get_elem_tactic_extensible
        refine W_lc (f := pairD) (tiesR nb ps) (fun t => !decide (t ∈ tiesR nb W) && !decide ((t.2, t.1) ∈ tiesR nb W)) pairD ?_ (fun t ht => ?_) rfl ?_
        · get_elem_tactic_extensible
        · have i1 := in_prs (n := true) (a := t.1) (b := t.2) (l := tiesR nb W)
          have i1 : inB true (pairD t) (.lst ((tiesR nb W).map pairD)) = some (.bl (!decide (t ∈ tiesR nb W))) := i1
          have i2 := in_prs (n := true) (a := t.2) (b := t.1) (l := tiesR nb W)
          have i2 : inB true (pairD (t.2, t.1)) (.lst ((tiesR nb W).map pairD)) = some (.bl (!decide ((t.2, t.1) ∈ tiesR nb W))) := i2
          have i3 : revD (pairD t) = some (pairD (t.2, t.1)) := rfl
          get_elem_tactic_extensible
          refine ⟨rfl, ?_, fun _ => ?_⟩
          · get_elem_tactic_extensible
            refine Br.mk (fun e => ?_) fun e => ?_
            · get_elem_tactic_extensible
              exact ⟨by rw [e, Bool.true_and], rfl⟩
            · exact ⟨by rw [e, Bool.false_and], rfl⟩
          · get_elem_tactic_extensible
        rw [show (tiesR nb ps).filter (fun t => !decide (t ∈ tiesR nb W) && !decide ((t.2, t.1) ∈ tiesR nb W)) = [] from by
          rw [List.filter_eq_nil_iff]
          intro t ht
          obtain ⟨h1, h2, h3, h4⟩ := tiesR_mem (show (t.1, t.2) ∈ tiesR nb ps from ht)
          rcases tiesR_all m.ok.sy (hW.mem_iff.mpr h1) (hW.mem_iff.mpr h2) (h4 nd) h3 with z | z
          · have : t ∈ tiesR nb W := z
            simp [this]
          · simp [z]]
        get_elem_tactic_extensible
        refine Br.of_f (by simp) ?_
        get_elem_tactic_extensible
        refine W_lc (f := pairD) (tiesR nb ps) (fun p => !decide (p.1 ∈ l) && !decide (p.2 ∈ l)) pairD ?_ (fun t ht => ?_) rfl ?_
        · get_elem_tactic_extensible
        · have i1 : idxD (pairD t) (.int 0) = some (.str t.1) := rfl
          have i2 : idxD (pairD t) (.int 1) = some (.str t.2) := rfl
          get_elem_tactic_extensible
          refine ⟨rfl, ?_, fun _ => ?_⟩
          · get_elem_tactic_extensible
            refine Br.mk (fun e => ?_) fun e => ?_
            · get_elem_tactic_extensible
              exact ⟨by rw [e, Bool.true_and], rfl⟩
            · exact ⟨by rw [e, Bool.false_and], rfl⟩
          · get_elem_tactic_extensible
        get_elem_tactic_extensible
        exact ⟨s4, _, _, _, _, _, _, _, _, rfl, hs4⟩
    · rintro ρ ⟨s, a2, a3, a4, a5, a6, a7, a8, a9, rfl, hs⟩
      get_elem_tactic_extensible
  obtain ⟨d, ρ, e, rfl⟩ := key.ex
  exact ⟨ρ, e⟩
end

end
end Lw
end
end
section
set_option autoImplicit false
set_option Elab.async false
set_option linter.all false
set_option maxRecDepth 100000
set_option maxHeartbeats 4000000
namespace Lw
open PySem PySem.Spec PyProof.Rows L2 DM
theorem no_ex {P : Program} {w : World} {H : Hp} {s s' : Shared} {e : Value} (h : L2.CX P w [] H s (fun _ _ _ => False) e s') : False := by
  obtain ⟨_, _, _, _, _, _, _, _, _, _, _, _, h⟩ := h
  exact h
def clOf (K : PySem.W.Frag) (c : String) : Option Addr := match PySem.W.nsIn K mainGlobals (Str.ofString c) with
  | some (some (.ref a)) => some a
  | _ => none
theorem all_mk {l : PySem.W.OpenLaw} {w : World} {K : PySem.W.Frag} {h : Heap} {mg : Str → Option Value} {fa C_Map f0 f1 f2 f3 f4 f5 f6 f7 f8 f9 f10 f11 f12 f13 f14 f15 f16 f17 f18 f19 f20 f21 f22 f23 f24 f25 f26 f27 f28 f29 f30 f31 f32 f33 f34 f35 f36 f37 f38 : Addr} (X : K.In h) (G : h.Ns mainGlobals mg) (hfa : mg "law" = some (.ref fa))
    {od0 an0 od1 an1 od2 an2 od3 an3 od4 an4 od5 an5 od6 an6 od7 an7 od8 an8 od9 an9 od10 an10 od11 an11 od12 an12 od13 an13 od14 an14 od15 an15 od16 an16 od17 an17 od18 an18 od19 an19 od20 an20 od21 an21 od22 an22 od23 an23 od24 an24 od25 an25 od26 an26 od27 an27 od28 an28 od29 an29 od30 an30 od31 an31 od32 an32 od33 an33 od34 an34 od35 an35 od36 an36 od37 an37 od38 an38 : Option Addr} {sl0 sl1 sl2 sl3 sl4 sl5 sl6 sl7 sl8 sl9 sl10 sl11 sl12 sl13 sl14 sl15 sl16 sl17 sl18 sl19 sl20 sl21 sl22 sl23 sl24 sl25 sl26 sl27 sl28 sl29 sl30 sl31 sl32 sl33 sl34 sl35 sl36 sl37 sl38 : Array (Option Value)} {oc0 kV0 dc0 pm0 cd0 ct0 oc1 kV1 dc1 pm1 cd1 ct1 oc2 kV2 dc2 pm2 cd2 ct2 oc3 kV3 dc3 pm3 cd3 ct3 oc4 kV4 dc4 pm4 cd4 ct4 oc5 kV5 dc5 pm5 cd5 ct5 oc6 kV6 dc6 pm6 cd6 ct6 oc7 kV7 dc7 pm7 cd7 ct7 oc8 kV8 dc8 pm8 cd8 ct8 oc9 kV9 dc9 pm9 cd9 ct9 oc10 kV10 dc10 pm10 cd10 ct10 oc11 kV11 dc11 pm11 cd11 ct11 oc12 kV12 dc12 pm12 cd12 ct12 oc13 kV13 dc13 pm13 cd13 ct13 oc14 kV14 dc14 pm14 cd14 ct14 oc15 kV15 dc15 pm15 cd15 ct15 oc16 kV16 dc16 pm16 cd16 ct16 oc17 kV17 dc17 pm17 cd17 ct17 oc18 kV18 dc18 pm18 cd18 ct18 oc19 kV19 dc19 pm19 cd19 ct19 oc20 kV20 dc20 pm20 cd20 ct20 oc21 kV21 dc21 pm21 cd21 ct21 oc22 kV22 dc22 pm22 cd22 ct22 oc23 kV23 dc23 pm23 cd23 ct23 oc24 kV24 dc24 pm24 cd24 ct24 oc25 kV25 dc25 pm25 cd25 ct25 oc26 kV26 dc26 pm26 cd26 ct26 oc27 kV27 dc27 pm27 cd27 ct27 oc28 kV28 dc28 pm28 cd28 ct28 oc29 kV29 dc29 pm29 cd29 ct29 oc30 kV30 dc30 pm30 cd30 ct30 oc31 kV31 dc31 pm31 cd31 ct31 oc32 kV32 dc32 pm32 cd32 ct32 oc33 kV33 dc33 pm33 cd33 ct33 oc34 kV34 dc34 pm34 cd34 ct34 oc35 kV35 dc35 pm35 cd35 ct35 oc36 kV36 dc36 pm36 cd36 ct36 oc37 kV37 dc37 pm37 cd37 ct37 oc38 kV38 dc38 pm38 cd38 ct38 : Value} {t_FIGURES t_LETTERS : Tok}
    (aC_Map : PySem.W.nsIn K mainGlobals "Map" = some (some (.ref C_Map)))
    (pg_Map : PySem.W.plainGet K C_Map Str.empty = true)
    (hd_Map : PySem.W.hasDictIn K C_Map = true)
    (po_Map : PySem.W.plainOver K C_Map = true)
    (mk_Map : PySem.W.makesIn K C_Map = true)
    (kc_Map : PySem.W.keepIn K (.ref C_Map) = true)
    (sa_Map : PySem.W.findIn K (.ref C_Map) "__setattr__" = some (some (.builtin "object.__setattr__")))
    (n_Map_own_posts : PySem.W.findIn K (.ref C_Map) "own_posts" = some none)
    (n_Map_own_numbers : PySem.W.findIn K (.ref C_Map) "own_numbers" = some none)
    (n_Map_own_near : PySem.W.findIn K (.ref C_Map) "own_near" = some none)
    (a0 : PySem.W.nsIn K mainGlobals "_law_source" = some (some (.ref f0)))
    (l0 : K.lookup f0 = some ⟨oc0, od0, .func (PySem.W.fnOf "_law_source" "_law_source" (defArgs s_law_source) (defBody s_law_source) (defScope s_law_source) .none kV0 dc0 pm0 an0 cd0 ct0), sl0⟩)
    (c0 : PySem.W.codeIn K cd0 "_law_source" = true)
    (k0 : PySem.W.keepIn K (.ref f0) = true)
    (a1 : PySem.W.nsIn K mainGlobals "_law_pick" = some (some (.ref f1)))
    (l1 : K.lookup f1 = some ⟨oc1, od1, .func (PySem.W.fnOf "_law_pick" "_law_pick" (defArgs s_law_pick) (defBody s_law_pick) (defScope s_law_pick) .none kV1 dc1 pm1 an1 cd1 ct1), sl1⟩)
    (c1 : PySem.W.codeIn K cd1 "_law_pick" = true)
    (k1 : PySem.W.keepIn K (.ref f1) = true)
    (a2 : PySem.W.nsIn K mainGlobals "_law_names" = some (some (.ref f2)))
    (l2 : K.lookup f2 = some ⟨oc2, od2, .func (PySem.W.fnOf "_law_names" "_law_names" (defArgs s_law_names) (defBody s_law_names) (defScope s_law_names) .none kV2 dc2 pm2 an2 cd2 ct2), sl2⟩)
    (c2 : PySem.W.codeIn K cd2 "_law_names" = true)
    (k2 : PySem.W.keepIn K (.ref f2) = true)
    (a3 : PySem.W.nsIn K mainGlobals "_law_mixed" = some (some (.ref f3)))
    (l3 : K.lookup f3 = some ⟨oc3, od3, .func (PySem.W.fnOf "_law_mixed" "_law_mixed" (defArgs s_law_mixed) (defBody s_law_mixed) (defScope s_law_mixed) .none kV3 dc3 pm3 an3 cd3 ct3), sl3⟩)
    (c3 : PySem.W.codeIn K cd3 "_law_mixed" = true)
    (k3 : PySem.W.keepIn K (.ref f3) = true)
    (a4 : PySem.W.nsIn K mainGlobals "_law_turned_ties" = some (some (.ref f4)))
    (l4 : K.lookup f4 = some ⟨oc4, od4, .func (PySem.W.fnOf "_law_turned_ties" "_law_turned_ties" (defArgs s_law_turned_ties) (defBody s_law_turned_ties) (defScope s_law_turned_ties) .none kV4 dc4 pm4 an4 cd4 ct4), sl4⟩)
    (c4 : PySem.W.codeIn K cd4 "_law_turned_ties" = true)
    (k4 : PySem.W.keepIn K (.ref f4) = true)
    (a5 : PySem.W.nsIn K mainGlobals "is_list" = some (some (.ref f5)))
    (l5 : K.lookup f5 = some ⟨oc5, od5, .func (PySem.W.fnOf "is_list" "is_list" (defArgs s_is_list) (defBody s_is_list) (defScope s_is_list) .none kV5 dc5 pm5 an5 cd5 ct5), sl5⟩)
    (c5 : PySem.W.codeIn K cd5 "is_list" = true)
    (k5 : PySem.W.keepIn K (.ref f5) = true)
    (a6 : PySem.W.nsIn K mainGlobals "is_word" = some (some (.ref f6)))
    (l6 : K.lookup f6 = some ⟨oc6, od6, .func (PySem.W.fnOf "is_word" "is_word" (defArgs s_is_word) (defBody s_is_word) (defScope s_is_word) .none kV6 dc6 pm6 an6 cd6 ct6), sl6⟩)
    (c6 : PySem.W.codeIn K cd6 "is_word" = true)
    (k6 : PySem.W.keepIn K (.ref f6) = true)
    (a7 : PySem.W.nsIn K mainGlobals "wrong_post" = some (some (.ref f7)))
    (l7 : K.lookup f7 = some ⟨oc7, od7, .func (PySem.W.fnOf "wrong_post" "wrong_post" (defArgs s_wrong_post) (defBody s_wrong_post) (defScope s_wrong_post) .none kV7 dc7 pm7 an7 cd7 ct7), sl7⟩)
    (c7 : PySem.W.codeIn K cd7 "wrong_post" = true)
    (k7 : PySem.W.keepIn K (.ref f7) = true)
    (a8 : PySem.W.nsIn K mainGlobals "is_row" = some (some (.ref f8)))
    (l8 : K.lookup f8 = some ⟨oc8, od8, .func (PySem.W.fnOf "is_row" "is_row" (defArgs s_is_row) (defBody s_is_row) (defScope s_is_row) .none kV8 dc8 pm8 an8 cd8 ct8), sl8⟩)
    (c8 : PySem.W.codeIn K cd8 "is_row" = true)
    (k8 : PySem.W.keepIn K (.ref f8) = true)
    (a9 : PySem.W.nsIn K mainGlobals "is_among" = some (some (.ref f9)))
    (l9 : K.lookup f9 = some ⟨oc9, od9, .func (PySem.W.fnOf "is_among" "is_among" (defArgs s_is_among) (defBody s_is_among) (defScope s_is_among) .none kV9 dc9 pm9 an9 cd9 ct9), sl9⟩)
    (c9 : PySem.W.codeIn K cd9 "is_among" = true)
    (k9 : PySem.W.keepIn K (.ref f9) = true)
    (a10 : PySem.W.nsIn K mainGlobals "wrong_tie" = some (some (.ref f10)))
    (l10 : K.lookup f10 = some ⟨oc10, od10, .func (PySem.W.fnOf "wrong_tie" "wrong_tie" (defArgs s_wrong_tie) (defBody s_wrong_tie) (defScope s_wrong_tie) .none kV10 dc10 pm10 an10 cd10 ct10), sl10⟩)
    (c10 : PySem.W.codeIn K cd10 "wrong_tie" = true)
    (k10 : PySem.W.keepIn K (.ref f10) = true)
    (a11 : PySem.W.findIn K (.ref C_Map) "__init__" = some (some (.ref f11)))
    (i11 : PySem.W.isFn K (.ref f11) = true)
    (l11 : K.lookup f11 = some ⟨oc11, od11, .func (PySem.W.fnOf "__init__" "Map.__init__" (defArgs s_Map___init__) (defBody s_Map___init__) (defScope s_Map___init__) .none kV11 dc11 pm11 an11 cd11 ct11), sl11⟩)
    (c11 : PySem.W.codeIn K cd11 "Map.__init__" = true)
    (k11 : PySem.W.keepIn K (.ref f11) = true)
    (a12 : PySem.W.nsIn K mainGlobals "_law_made" = some (some (.ref f12)))
    (l12 : K.lookup f12 = some ⟨oc12, od12, .func (PySem.W.fnOf "_law_made" "_law_made" (defArgs s_law_made) (defBody s_law_made) (defScope s_law_made) .none kV12 dc12 pm12 an12 cd12 ct12), sl12⟩)
    (c12 : PySem.W.codeIn K cd12 "_law_made" = true)
    (k12 : PySem.W.keepIn K (.ref f12) = true)
    (a13 : PySem.W.nsIn K mainGlobals "_law_of" = some (some (.ref f13)))
    (l13 : K.lookup f13 = some ⟨oc13, od13, .func (PySem.W.fnOf "_law_of" "_law_of" (defArgs s_law_of) (defBody s_law_of) (defScope s_law_of) .none kV13 dc13 pm13 an13 cd13 ct13), sl13⟩)
    (c13 : PySem.W.codeIn K cd13 "_law_of" = true)
    (k13 : PySem.W.keepIn K (.ref f13) = true)
    (a14 : PySem.W.nsIn K mainGlobals "_law_good_ties" = some (some (.ref f14)))
    (l14 : K.lookup f14 = some ⟨oc14, od14, .func (PySem.W.fnOf "_law_good_ties" "_law_good_ties" (defArgs s_law_good_ties) (defBody s_law_good_ties) (defScope s_law_good_ties) .none kV14 dc14 pm14 an14 cd14 ct14), sl14⟩)
    (c14 : PySem.W.codeIn K cd14 "_law_good_ties" = true)
    (k14 : PySem.W.keepIn K (.ref f14) = true)
    (a15 : PySem.W.nsIn K mainGlobals "_law_map" = some (some (.ref f15)))
    (l15 : K.lookup f15 = some ⟨oc15, od15, .func (PySem.W.fnOf "_law_map" "_law_map" (defArgs s_law_map) (defBody s_law_map) (defScope s_law_map) .none kV15 dc15 pm15 an15 cd15 ct15), sl15⟩)
    (c15 : PySem.W.codeIn K cd15 "_law_map" = true)
    (k15 : PySem.W.keepIn K (.ref f15) = true)
    (a16 : PySem.W.nsIn K mainGlobals "_law_any_ties" = some (some (.ref f16)))
    (l16 : K.lookup f16 = some ⟨oc16, od16, .func (PySem.W.fnOf "_law_any_ties" "_law_any_ties" (defArgs s_law_any_ties) (defBody s_law_any_ties) (defScope s_law_any_ties) .none kV16 dc16 pm16 an16 cd16 ct16), sl16⟩)
    (c16 : PySem.W.codeIn K cd16 "_law_any_ties" = true)
    (k16 : PySem.W.keepIn K (.ref f16) = true)
    (a17 : PySem.W.nsIn K mainGlobals "_law_any_map" = some (some (.ref f17)))
    (l17 : K.lookup f17 = some ⟨oc17, od17, .func (PySem.W.fnOf "_law_any_map" "_law_any_map" (defArgs s_law_any_map) (defBody s_law_any_map) (defScope s_law_any_map) .none kV17 dc17 pm17 an17 cd17 ct17), sl17⟩)
    (c17 : PySem.W.codeIn K cd17 "_law_any_map" = true)
    (k17 : PySem.W.keepIn K (.ref f17) = true)
    (a18 : PySem.W.nsIn K mainGlobals "_law_ring_map" = some (some (.ref f18)))
    (l18 : K.lookup f18 = some ⟨oc18, od18, .func (PySem.W.fnOf "_law_ring_map" "_law_ring_map" (defArgs s_law_ring_map) (defBody s_law_ring_map) (defScope s_law_ring_map) .none kV18 dc18 pm18 an18 cd18 ct18), sl18⟩)
    (c18 : PySem.W.codeIn K cd18 "_law_ring_map" = true)
    (k18 : PySem.W.keepIn K (.ref f18) = true)
    (a19 : PySem.W.nsIn K mainGlobals "_law_great_map" = some (some (.ref f19)))
    (l19 : K.lookup f19 = some ⟨oc19, od19, .func (PySem.W.fnOf "_law_great_map" "_law_great_map" (defArgs s_law_great_map) (defBody s_law_great_map) (defScope s_law_great_map) .none kV19 dc19 pm19 an19 cd19 ct19), sl19⟩)
    (c19 : PySem.W.codeIn K cd19 "_law_great_map" = true)
    (k19 : PySem.W.keepIn K (.ref f19) = true)
    (a20 : PySem.W.nsIn K mainGlobals "_law_drawn_map" = some (some (.ref f20)))
    (l20 : K.lookup f20 = some ⟨oc20, od20, .func (PySem.W.fnOf "_law_drawn_map" "_law_drawn_map" (defArgs s_law_drawn_map) (defBody s_law_drawn_map) (defScope s_law_drawn_map) .none kV20 dc20 pm20 an20 cd20 ct20), sl20⟩)
    (c20 : PySem.W.codeIn K cd20 "_law_drawn_map" = true)
    (k20 : PySem.W.keepIn K (.ref f20) = true)
    (a21 : PySem.W.findIn K (.ref C_Map) "posts" = some (some (.ref f21)))
    (i21 : PySem.W.isFn K (.ref f21) = true)
    (l21 : K.lookup f21 = some ⟨oc21, od21, .func (PySem.W.fnOf "posts" "Map.posts" (defArgs s_Map_posts) (defBody s_Map_posts) (defScope s_Map_posts) .none kV21 dc21 pm21 an21 cd21 ct21), sl21⟩)
    (c21 : PySem.W.codeIn K cd21 "Map.posts" = true)
    (k21 : PySem.W.keepIn K (.ref f21) = true)
    (a22 : PySem.W.findIn K (.ref C_Map) "check" = some (some (.ref f22)))
    (i22 : PySem.W.isFn K (.ref f22) = true)
    (l22 : K.lookup f22 = some ⟨oc22, od22, .func (PySem.W.fnOf "check" "Map.check" (defArgs s_Map_check) (defBody s_Map_check) (defScope s_Map_check) .none kV22 dc22 pm22 an22 cd22 ct22), sl22⟩)
    (c22 : PySem.W.codeIn K cd22 "Map.check" = true)
    (k22 : PySem.W.keepIn K (.ref f22) = true)
    (a23 : PySem.W.findIn K (.ref C_Map) "near" = some (some (.ref f23)))
    (i23 : PySem.W.isFn K (.ref f23) = true)
    (l23 : K.lookup f23 = some ⟨oc23, od23, .func (PySem.W.fnOf "near" "Map.near" (defArgs s_Map_near) (defBody s_Map_near) (defScope s_Map_near) .none kV23 dc23 pm23 an23 cd23 ct23), sl23⟩)
    (c23 : PySem.W.codeIn K cd23 "Map.near" = true)
    (k23 : PySem.W.keepIn K (.ref f23) = true)
    (a24 : PySem.W.nsIn K mainGlobals "piece_of" = some (some (.ref f24)))
    (l24 : K.lookup f24 = some ⟨oc24, od24, .func (PySem.W.fnOf "piece_of" "piece_of" (defArgs s_piece_of) (defBody s_piece_of) (defScope s_piece_of) .none kV24 dc24 pm24 an24 cd24 ct24), sl24⟩)
    (c24 : PySem.W.codeIn K cd24 "piece_of" = true)
    (k24 : PySem.W.keepIn K (.ref f24) = true)
    (a25 : PySem.W.nsIn K mainGlobals "pieces_of" = some (some (.ref f25)))
    (l25 : K.lookup f25 = some ⟨oc25, od25, .func (PySem.W.fnOf "pieces_of" "pieces_of" (defArgs s_pieces_of) (defBody s_pieces_of) (defScope s_pieces_of) .none kV25 dc25 pm25 an25 cd25 ct25), sl25⟩)
    (c25 : PySem.W.codeIn K cd25 "pieces_of" = true)
    (k25 : PySem.W.keepIn K (.ref f25) = true)
    (a26 : PySem.W.nsIn K mainGlobals "_law_some_of" = some (some (.ref f26)))
    (l26 : K.lookup f26 = some ⟨oc26, od26, .func (PySem.W.fnOf "_law_some_of" "_law_some_of" (defArgs s_law_some_of) (defBody s_law_some_of) (defScope s_law_some_of) .none kV26 dc26 pm26 an26 cd26 ct26), sl26⟩)
    (c26 : PySem.W.codeIn K cd26 "_law_some_of" = true)
    (k26 : PySem.W.keepIn K (.ref f26) = true)
    (a27 : PySem.W.findIn K (.ref C_Map) "ties" = some (some (.ref f27)))
    (i27 : PySem.W.isFn K (.ref f27) = true)
    (l27 : K.lookup f27 = some ⟨oc27, od27, .func (PySem.W.fnOf "ties" "Map.ties" (defArgs s_Map_ties) (defBody s_Map_ties) (defScope s_Map_ties) .none kV27 dc27 pm27 an27 cd27 ct27), sl27⟩)
    (c27 : PySem.W.codeIn K cd27 "Map.ties" = true)
    (k27 : PySem.W.keepIn K (.ref f27) = true)
    (a28 : PySem.W.nsIn K mainGlobals "part_map" = some (some (.ref f28)))
    (l28 : K.lookup f28 = some ⟨oc28, od28, .func (PySem.W.fnOf "part_map" "part_map" (defArgs s_part_map) (defBody s_part_map) (defScope s_part_map) .none kV28 dc28 pm28 an28 cd28 ct28), sl28⟩)
    (c28 : PySem.W.codeIn K cd28 "part_map" = true)
    (k28 : PySem.W.keepIn K (.ref f28) = true)
    (a29 : PySem.W.nsIn K mainGlobals "map_without" = some (some (.ref f29)))
    (l29 : K.lookup f29 = some ⟨oc29, od29, .func (PySem.W.fnOf "map_without" "map_without" (defArgs s_map_without) (defBody s_map_without) (defScope s_map_without) .none kV29 dc29 pm29 an29 cd29 ct29), sl29⟩)
    (c29 : PySem.W.codeIn K cd29 "map_without" = true)
    (k29 : PySem.W.keepIn K (.ref f29) = true)
    (a30 : PySem.W.nsIn K mainGlobals "joined_maps" = some (some (.ref f30)))
    (l30 : K.lookup f30 = some ⟨oc30, od30, .func (PySem.W.fnOf "joined_maps" "joined_maps" (defArgs s_joined_maps) (defBody s_joined_maps) (defScope s_joined_maps) .none kV30 dc30 pm30 an30 cd30 ct30), sl30⟩)
    (c30 : PySem.W.codeIn K cd30 "joined_maps" = true)
    (k30 : PySem.W.keepIn K (.ref f30) = true)
    (a31 : PySem.W.findIn K (.ref C_Map) "__eq__" = some (some (.ref f31)))
    (i31 : PySem.W.isFn K (.ref f31) = true)
    (l31 : K.lookup f31 = some ⟨oc31, od31, .func (PySem.W.fnOf "__eq__" "Map.__eq__" (defArgs s_Map___eq__) (defBody s_Map___eq__) (defScope s_Map___eq__) .none kV31 dc31 pm31 an31 cd31 ct31), sl31⟩)
    (c31 : PySem.W.codeIn K cd31 "Map.__eq__" = true)
    (k31 : PySem.W.keepIn K (.ref f31) = true)
    (a32 : PySem.W.nsIn K mainGlobals "without_tie" = some (some (.ref f32)))
    (l32 : K.lookup f32 = some ⟨oc32, od32, .func (PySem.W.fnOf "without_tie" "without_tie" (defArgs s_without_tie) (defBody s_without_tie) (defScope s_without_tie) .none kV32 dc32 pm32 an32 cd32 ct32), sl32⟩)
    (c32 : PySem.W.codeIn K cd32 "without_tie" = true)
    (k32 : PySem.W.keepIn K (.ref f32) = true)
    (a33 : PySem.W.nsIn K mainGlobals "with_tie" = some (some (.ref f33)))
    (l33 : K.lookup f33 = some ⟨oc33, od33, .func (PySem.W.fnOf "with_tie" "with_tie" (defArgs s_with_tie) (defBody s_with_tie) (defScope s_with_tie) .none kV33 dc33 pm33 an33 cd33 ct33), sl33⟩)
    (c33 : PySem.W.codeIn K cd33 "with_tie" = true)
    (k33 : PySem.W.keepIn K (.ref f33) = true)
    (a34 : PySem.W.findIn K (.ref C_Map) "is_near" = some (some (.ref f34)))
    (i34 : PySem.W.isFn K (.ref f34) = true)
    (l34 : K.lookup f34 = some ⟨oc34, od34, .func (PySem.W.fnOf "is_near" "Map.is_near" (defArgs s_Map_is_near) (defBody s_Map_is_near) (defScope s_Map_is_near) .none kV34 dc34 pm34 an34 cd34 ct34), sl34⟩)
    (c34 : PySem.W.codeIn K cd34 "Map.is_near" = true)
    (k34 : PySem.W.keepIn K (.ref f34) = true)
    (a35 : PySem.W.nsIn K mainGlobals "both_near" = some (some (.ref f35)))
    (l35 : K.lookup f35 = some ⟨oc35, od35, .func (PySem.W.fnOf "both_near" "both_near" (defArgs s_both_near) (defBody s_both_near) (defScope s_both_near) .none kV35 dc35 pm35 an35 cd35 ct35), sl35⟩)
    (c35 : PySem.W.codeIn K cd35 "both_near" = true)
    (k35 : PySem.W.keepIn K (.ref f35) = true)
    (a36 : PySem.W.nsIn K mainGlobals "_law_grown_right" = some (some (.ref f36)))
    (l36 : K.lookup f36 = some ⟨oc36, od36, .func (PySem.W.fnOf "_law_grown_right" "_law_grown_right" (defArgs s_law_grown_right) (defBody s_law_grown_right) (defScope s_law_grown_right) .none kV36 dc36 pm36 an36 cd36 ct36), sl36⟩)
    (c36 : PySem.W.codeIn K cd36 "_law_grown_right" = true)
    (k36 : PySem.W.keepIn K (.ref f36) = true)
    (a37 : PySem.W.nsIn K mainGlobals "_law_shrunk_right" = some (some (.ref f37)))
    (l37 : K.lookup f37 = some ⟨oc37, od37, .func (PySem.W.fnOf "_law_shrunk_right" "_law_shrunk_right" (defArgs s_law_shrunk_right) (defBody s_law_shrunk_right) (defScope s_law_shrunk_right) .none kV37 dc37 pm37 an37 cd37 ct37), sl37⟩)
    (c37 : PySem.W.codeIn K cd37 "_law_shrunk_right" = true)
    (k37 : PySem.W.keepIn K (.ref f37) = true)
    (a38 : PySem.W.nsIn K mainGlobals "law" = some (some (.ref f38)))
    (l38 : K.lookup f38 = some ⟨oc38, od38, .func (PySem.W.fnOf "law" "law" (defArgs s_law) (defBody s_law) (defScope s_law) .none kV38 dc38 pm38 an38 cd38 ct38), sl38⟩)
    (c38 : PySem.W.codeIn K cd38 "law" = true)
    (k38 : PySem.W.keepIn K (.ref f38) = true)
    (ne_Map : PySem.W.findIn K (.ref C_Map) "__ne__" = some (some (.builtin "object.__ne__")))
    (so_Map : PySem.W.subIn K (.ref C_Map) (.type "object") = some true)
    (ca_Map : PySem.W.findIn K (.ref C_Map) "__class__" = some (some (.builtin "object.__class__")))
    (cm_Map : PySem.W.mroIn K C_Map (.type "object") = some true)
    (cg_ : PySem.W.specialIn K (.builtin "object.__class__") "__get__" = some (some (.builtin "getset_descriptor.__get__")))
    (ct_ : PySem.W.takesIn K (.builtin "object.__class__") = some true)
    (z_abs : PySem.W.nsIn K mainGlobals "abs" = some none)
    (z_all : PySem.W.nsIn K mainGlobals "all" = some none)
    (z_enumerate : PySem.W.nsIn K mainGlobals "enumerate" = some none)
    (z_int : PySem.W.nsIn K mainGlobals "int" = some none)
    (z_isinstance : PySem.W.nsIn K mainGlobals "isinstance" = some none)
    (z_len : PySem.W.nsIn K mainGlobals "len" = some none)
    (z_list : PySem.W.nsIn K mainGlobals "list" = some none)
    (z_max : PySem.W.nsIn K mainGlobals "max" = some none)
    (z_range : PySem.W.nsIn K mainGlobals "range" = some none)
    (z_sorted : PySem.W.nsIn K mainGlobals "sorted" = some none)
    (z_str : PySem.W.nsIn K mainGlobals "str" = some none)
    (z_tuple : PySem.W.nsIn K mainGlobals "tuple" = some none)
    (g_FIGURES : PySem.W.nsIn K mainGlobals "FIGURES" = some (some (.str "0123456789" t_FIGURES)))
    (g_LETTERS : PySem.W.nsIn K mainGlobals "LETTERS" = some (some (.str "abcdefghijklmnopqrstuvwxyz" t_LETTERS)))
    : ∃ fd : FuncData, (∀ (s : Shared) (v : Value), BindsTo s fd ⟨[v], []⟩ [("_law_script", v)]) ∧ ∀ base : Heap, K.In base → base.Ns mainGlobals mg → FnG l.prog w K mg base (L2.CX l.prog w) 9 fa fd ["_law_script"] (spOf ⟨K, clOf K⟩ g_law) := by
  have e := hfa.symm.trans (PySem.W.mg_of X G a38)
  cases e
  have hC_Map : clOf K "Map" = some C_Map := by
    unfold clOf
    rw [show PySem.W.nsIn K mainGlobals (Str.ofString "Map") = some (some (.ref C_Map)) from aC_Map]
  have na_Map : ∀ f ∈ (["own_posts", "own_numbers", "own_near"] : List Str), NoAttr K C_Map f := by
    intro f hf
    simp only [List.mem_cons, List.mem_nil_iff, or_false] at hf
    rcases hf with rfl | rfl | rfl
    · exact n_Map_own_posts
    · exact n_Map_own_numbers
    · exact n_Map_own_near
  have z : Facts K mg (clOf K) := ⟨PySem.W.mg_none_of X G z_abs, PySem.W.mg_none_of X G z_all, PySem.W.mg_none_of X G z_enumerate, PySem.W.mg_none_of X G z_int, PySem.W.mg_none_of X G z_isinstance, PySem.W.mg_none_of X G z_len, PySem.W.mg_none_of X G z_list, PySem.W.mg_none_of X G z_max, PySem.W.mg_none_of X G z_range, PySem.W.mg_none_of X G z_sorted, PySem.W.mg_none_of X G z_str, PySem.W.mg_none_of X G z_tuple, ⟨_, PySem.W.mg_of X G g_FIGURES⟩, ⟨_, PySem.W.mg_of X G g_LETTERS⟩, ⟨C_Map, hC_Map, ⟨pg_Map, hd_Map, po_Map, sa_Map⟩, na_Map⟩, ⟨C_Map, hC_Map, ne_Map, so_Map⟩, ⟨C_Map, PySem.W.mg_of X G aC_Map, hC_Map, if_pos (beq_self_eq_true _), fun _ _ _ _ e => .ins e ⟨pg_Map, hd_Map, po_Map, sa_Map⟩ ca_Map cg_ ct_ cm_Map⟩⟩
  have F0 := fun_mk (st := s_law_source) l0 c0 k0
  have b0 := F0.binds (ps := ["_law_script"]) fun _ _ _ _ _ _ us hl => match us, hl with | [_], _ => rfl
  have F1 := fun_mk (st := s_law_pick) l1 c1 k1
  have b1 := F1.binds (ps := ["_law_source_here", "_law_many"]) fun _ _ _ _ _ _ us hl => match us, hl with | [_, _], _ => rfl
  have F2 := fun_mk (st := s_law_names) l2 c2 k2
  have b2 := F2.binds (ps := ["_law_source_here", "_law_many"]) fun _ _ _ _ _ _ us hl => match us, hl with | [_, _], _ => rfl
  have F3 := fun_mk (st := s_law_mixed) l3 c3 k3
  have b3 := F3.binds (ps := ["_law_source_here", "_law_things"]) fun _ _ _ _ _ _ us hl => match us, hl with | [_, _], _ => rfl
  have F4 := fun_mk (st := s_law_turned_ties) l4 c4 k4
  have b4 := F4.binds (ps := ["_law_source_here", "_law_ties"]) fun _ _ _ _ _ _ us hl => match us, hl with | [_, _], _ => rfl
  have F5 := fun_mk (st := s_is_list) l5 c5 k5
  have b5 := F5.binds (ps := ["value"]) fun _ _ _ _ _ _ us hl => match us, hl with | [_], _ => rfl
  have F6 := fun_mk (st := s_is_word) l6 c6 k6
  have b6 := F6.binds (ps := ["value"]) fun _ _ _ _ _ _ us hl => match us, hl with | [_], _ => rfl
  have F7 := fun_mk (st := s_wrong_post) l7 c7 k7
  have b7 := F7.binds (ps := ["posts"]) fun _ _ _ _ _ _ us hl => match us, hl with | [_], _ => rfl
  have F8 := fun_mk (st := s_is_row) l8 c8 k8
  have b8 := F8.binds (ps := ["value", "many"]) fun _ _ _ _ _ _ us hl => match us, hl with | [_, _], _ => rfl
  have F9 := fun_mk (st := s_is_among) l9 c9 k9
  have b9 := F9.binds (ps := ["value", "words"]) fun _ _ _ _ _ _ us hl => match us, hl with | [_, _], _ => rfl
  have F10 := fun_mk (st := s_wrong_tie) l10 c10 k10
  have b10 := F10.binds (ps := ["posts", "ties"]) fun _ _ _ _ _ _ us hl => match us, hl with | [_, _], _ => rfl
  have F11 := fun_mk (st := s_Map___init__) l11 c11 k11
  have b11 := F11.binds (ps := ["self", "posts", "ties"]) fun _ _ _ _ _ _ us hl => match us, hl with | [_, _, _], _ => rfl
  have F12 := fun_mk (st := s_law_made) l12 c12 k12
  have b12 := F12.binds (ps := ["_law_posts", "_law_ties"]) fun _ _ _ _ _ _ us hl => match us, hl with | [_, _], _ => rfl
  have F13 := fun_mk (st := s_law_of) l13 c13 k13
  have b13 := F13.binds (ps := ["_law_source_here", "_law_some"]) fun _ _ _ _ _ _ us hl => match us, hl with | [_, _], _ => rfl
  have F14 := fun_mk (st := s_law_good_ties) l14 c14 k14
  have b14 := F14.binds (ps := ["_law_source_here", "_law_posts"]) fun _ _ _ _ _ _ us hl => match us, hl with | [_, _], _ => rfl
  have F15 := fun_mk (st := s_law_map) l15 c15 k15
  have b15 := F15.binds (ps := ["_law_source_here", "_law_most"]) fun _ _ _ _ _ _ us hl => match us, hl with | [_, _], _ => rfl
  have F16 := fun_mk (st := s_law_any_ties) l16 c16 k16
  have b16 := F16.binds (ps := ["_law_source_here", "_law_posts", "_law_share"]) fun _ _ _ _ _ _ us hl => match us, hl with | [_, _, _], _ => rfl
  have F17 := fun_mk (st := s_law_any_map) l17 c17 k17
  have b17 := F17.binds (ps := ["_law_source_here", "_law_most"]) fun _ _ _ _ _ _ us hl => match us, hl with | [_, _], _ => rfl
  have F18 := fun_mk (st := s_law_ring_map) l18 c18 k18
  have b18 := F18.binds (ps := ["_law_source_here", "_law_k", "_law_more"]) fun _ _ _ _ _ _ us hl => match us, hl with | [_, _, _], _ => rfl
  have F19 := fun_mk (st := s_law_great_map) l19 c19 k19
  have b19 := F19.binds (ps := ["_law_source_here"]) fun _ _ _ _ _ _ us hl => match us, hl with | [_], _ => rfl
  have F20 := fun_mk (st := s_law_drawn_map) l20 c20 k20
  have b20 := F20.binds (ps := ["_law_source_here"]) fun _ _ _ _ _ _ us hl => match us, hl with | [_], _ => rfl
  have F21 := fun_mk (st := s_Map_posts) l21 c21 k21
  have b21 := F21.binds (ps := ["self"]) fun _ _ _ _ _ _ us hl => match us, hl with | [_], _ => rfl
  have F22 := fun_mk (st := s_Map_check) l22 c22 k22
  have b22 := F22.binds (ps := ["self", "values"]) fun _ _ _ _ _ _ us hl => match us, hl with | [_, _], _ => rfl
  have F23 := fun_mk (st := s_Map_near) l23 c23 k23
  have b23 := F23.binds (ps := ["self", "x"]) fun _ _ _ _ _ _ us hl => match us, hl with | [_, _], _ => rfl
  have F24 := fun_mk (st := s_piece_of) l24 c24 k24
  have b24 := F24.binds (ps := ["chart", "post"]) fun _ _ _ _ _ _ us hl => match us, hl with | [_, _], _ => rfl
  have F25 := fun_mk (st := s_pieces_of) l25 c25 k25
  have b25 := F25.binds (ps := ["chart"]) fun _ _ _ _ _ _ us hl => match us, hl with | [_], _ => rfl
  have F26 := fun_mk (st := s_law_some_of) l26 c26 k26
  have b26 := F26.binds (ps := ["_law_source_here", "_law_things"]) fun _ _ _ _ _ _ us hl => match us, hl with | [_, _], _ => rfl
  have F27 := fun_mk (st := s_Map_ties) l27 c27 k27
  have b27 := F27.binds (ps := ["self"]) fun _ _ _ _ _ _ us hl => match us, hl with | [_], _ => rfl
  have F28 := fun_mk (st := s_part_map) l28 c28 k28
  have b28 := F28.binds (ps := ["chart", "posts"]) fun _ _ _ _ _ _ us hl => match us, hl with | [_, _], _ => rfl
  have F29 := fun_mk (st := s_map_without) l29 c29 k29
  have b29 := F29.binds (ps := ["chart", "posts"]) fun _ _ _ _ _ _ us hl => match us, hl with | [_, _], _ => rfl
  have F30 := fun_mk (st := s_joined_maps) l30 c30 k30
  have b30 := F30.binds (ps := ["one", "other"]) fun _ _ _ _ _ _ us hl => match us, hl with | [_, _], _ => rfl
  have F31 := fun_mk (st := s_Map___eq__) l31 c31 k31
  have b31 := F31.binds (ps := ["self", "other"]) fun _ _ _ _ _ _ us hl => match us, hl with | [_, _], _ => rfl
  have F32 := fun_mk (st := s_without_tie) l32 c32 k32
  have b32 := F32.binds (ps := ["chart", "x", "y"]) fun _ _ _ _ _ _ us hl => match us, hl with | [_, _, _], _ => rfl
  have F33 := fun_mk (st := s_with_tie) l33 c33 k33
  have b33 := F33.binds (ps := ["chart", "x", "y"]) fun _ _ _ _ _ _ us hl => match us, hl with | [_, _, _], _ => rfl
  have F34 := fun_mk (st := s_Map_is_near) l34 c34 k34
  have b34 := F34.binds (ps := ["self", "x", "y"]) fun _ _ _ _ _ _ us hl => match us, hl with | [_, _, _], _ => rfl
  have F35 := fun_mk (st := s_both_near) l35 c35 k35
  have b35 := F35.binds (ps := ["chart", "x", "y"]) fun _ _ _ _ _ _ us hl => match us, hl with | [_, _, _], _ => rfl
  have F36 := fun_mk (st := s_law_grown_right) l36 c36 k36
  have b36 := F36.binds (ps := ["_law_source_here", "_law_world"]) fun _ _ _ _ _ _ us hl => match us, hl with | [_, _], _ => rfl
  have F37 := fun_mk (st := s_law_shrunk_right) l37 c37 k37
  have b37 := F37.binds (ps := ["_law_source_here", "_law_world"]) fun _ _ _ _ _ _ us hl => match us, hl with | [_, _], _ => rfl
  have F38 := fun_mk (st := s_law) l38 c38 k38
  have b38 := F38.binds (ps := ["_law_script"]) fun _ _ _ _ _ _ us hl => match us, hl with | [_], _ => rfl
  refine ⟨PySem.W.fnOf "law" "law" (defArgs s_law) (defBody s_law) (defScope s_law) .none kV38 dc38 pm38 an38 cd38 ct38, fun s v => .of_eq rfl, fun base _ _ => ?_⟩
  have h_law_source : FnL l.prog w K mg base ⟨K, clOf K⟩ "_law_source" 1 g_law_source := fun k hk => by
    obtain ⟨k', rfl⟩ : ∃ k', k = k' + 1 := ⟨k - 1, by omega⟩
    exact ⟨f0, _, _, PySem.W.mg_of X G a0, ok_law_source (by omega) z F0 , k0, b0⟩
  have h_law_pick : FnL l.prog w K mg base ⟨K, clOf K⟩ "_law_pick" 1 g_law_pick := fun k hk => by
    obtain ⟨k', rfl⟩ : ∃ k', k = k' + 1 := ⟨k - 1, by omega⟩
    exact ⟨f1, _, _, PySem.W.mg_of X G a1, ok_law_pick (by omega) z F1 , k1, b1⟩
  have h_law_names : FnL l.prog w K mg base ⟨K, clOf K⟩ "_law_names" 2 g_law_names := fun k hk => by
    obtain ⟨k', rfl⟩ : ∃ k', k = k' + 1 := ⟨k - 1, by omega⟩
    exact ⟨f2, _, _, PySem.W.mg_of X G a2, ok_law_names (by omega) z F2 h_law_pick, k2, b2⟩
  have h_law_mixed : FnL l.prog w K mg base ⟨K, clOf K⟩ "_law_mixed" 2 g_law_mixed := fun k hk => by
    obtain ⟨k', rfl⟩ : ∃ k', k = k' + 1 := ⟨k - 1, by omega⟩
    exact ⟨f3, _, _, PySem.W.mg_of X G a3, ok_law_mixed (by omega) z F3 h_law_pick, k3, b3⟩
  have h_law_turned_ties : FnL l.prog w K mg base ⟨K, clOf K⟩ "_law_turned_ties" 3 g_law_turned_ties := fun k hk => by
    obtain ⟨k', rfl⟩ : ∃ k', k = k' + 1 := ⟨k - 1, by omega⟩
    exact ⟨f4, _, _, PySem.W.mg_of X G a4, ok_law_turned_ties (by omega) z F4 h_law_mixed h_law_pick, k4, b4⟩
  have h_is_list : FnL l.prog w K mg base ⟨K, clOf K⟩ "is_list" 1 g_is_list := fun k hk => by
    obtain ⟨k', rfl⟩ : ∃ k', k = k' + 1 := ⟨k - 1, by omega⟩
    exact ⟨f5, _, _, PySem.W.mg_of X G a5, ok_is_list (by omega) z F5 , k5, b5⟩
  have h_is_word : FnL l.prog w K mg base ⟨K, clOf K⟩ "is_word" 1 g_is_word := fun k hk => by
    obtain ⟨k', rfl⟩ : ∃ k', k = k' + 1 := ⟨k - 1, by omega⟩
    exact ⟨f6, _, _, PySem.W.mg_of X G a6, ok_is_word (by omega) z F6 , k6, b6⟩
  have h_wrong_post : FnL l.prog w K mg base ⟨K, clOf K⟩ "wrong_post" 2 g_wrong_post := fun k hk => by
    obtain ⟨k', rfl⟩ : ∃ k', k = k' + 1 := ⟨k - 1, by omega⟩
    exact ⟨f7, _, _, PySem.W.mg_of X G a7, ok_wrong_post (by omega) z F7 h_is_list h_is_word, k7, b7⟩
  have h_is_row : FnL l.prog w K mg base ⟨K, clOf K⟩ "is_row" 1 g_is_row := fun k hk => by
    obtain ⟨k', rfl⟩ : ∃ k', k = k' + 1 := ⟨k - 1, by omega⟩
    exact ⟨f8, _, _, PySem.W.mg_of X G a8, ok_is_row (by omega) z F8 , k8, b8⟩
  have h_is_among : FnL l.prog w K mg base ⟨K, clOf K⟩ "is_among" 2 g_is_among := fun k hk => by
    obtain ⟨k', rfl⟩ : ∃ k', k = k' + 1 := ⟨k - 1, by omega⟩
    exact ⟨f9, _, _, PySem.W.mg_of X G a9, ok_is_among (by omega) z F9 h_is_word, k9, b9⟩
  have h_wrong_tie : FnL l.prog w K mg base ⟨K, clOf K⟩ "wrong_tie" 3 g_wrong_tie := fun k hk => by
    obtain ⟨k', rfl⟩ : ∃ k', k = k' + 1 := ⟨k - 1, by omega⟩
    exact ⟨f10, _, _, PySem.W.mg_of X G a10, ok_wrong_tie (by omega) z F10 h_is_list h_is_row h_is_among, k10, b10⟩
  have h_Map___init__ : MkL l.prog w K mg base ⟨K, clOf K⟩ "Map" "Map" 4 g_Map___init__ := fun k hk => by
    obtain ⟨k', rfl⟩ : ∃ k', k = k' + 1 := ⟨k - 1, by omega⟩
    exact ⟨C_Map, f11, _, _, PySem.W.mg_of X G aC_Map, hC_Map, ⟨mk_Map, a11, i11, kc_Map⟩, ok_Map___init__ (by omega) z F11 h_wrong_post h_wrong_tie, b11⟩
  have h_law_made : FnL l.prog w K mg base ⟨K, clOf K⟩ "_law_made" 6 g_law_made := fun k hk => by
    obtain ⟨k', rfl⟩ : ∃ k', k = k' + 1 := ⟨k - 1, by omega⟩
    exact ⟨f12, _, _, PySem.W.mg_of X G a12, ok_law_made (by omega) z F12 h_Map___init__, k12, b12⟩
  have h_law_of : FnL l.prog w K mg base ⟨K, clOf K⟩ "_law_of" 2 g_law_of := fun k hk => by
    obtain ⟨k', rfl⟩ : ∃ k', k = k' + 1 := ⟨k - 1, by omega⟩
    exact ⟨f13, _, _, PySem.W.mg_of X G a13, ok_law_of (by omega) z F13 h_law_pick, k13, b13⟩
  have h_law_good_ties : FnL l.prog w K mg base ⟨K, clOf K⟩ "_law_good_ties" 3 g_law_good_ties := fun k hk => by
    obtain ⟨k', rfl⟩ : ∃ k', k = k' + 1 := ⟨k - 1, by omega⟩
    exact ⟨f14, _, _, PySem.W.mg_of X G a14, ok_law_good_ties (by omega) z F14 h_law_pick h_law_mixed h_law_of, k14, b14⟩
  have h_law_map : FnL l.prog w K mg base ⟨K, clOf K⟩ "_law_map" 7 g_law_map := fun k hk => by
    obtain ⟨k', rfl⟩ : ∃ k', k = k' + 1 := ⟨k - 1, by omega⟩
    exact ⟨f15, _, _, PySem.W.mg_of X G a15, ok_law_map (by omega) z F15 h_law_names h_law_pick h_law_turned_ties h_law_good_ties h_law_made h_law_mixed, k15, b15⟩
  have h_law_any_ties : FnL l.prog w K mg base ⟨K, clOf K⟩ "_law_any_ties" 2 g_law_any_ties := fun k hk => by
    obtain ⟨k', rfl⟩ : ∃ k', k = k' + 1 := ⟨k - 1, by omega⟩
    exact ⟨f16, _, _, PySem.W.mg_of X G a16, ok_law_any_ties (by omega) z F16 h_law_pick, k16, b16⟩
  have h_law_any_map : FnL l.prog w K mg base ⟨K, clOf K⟩ "_law_any_map" 7 g_law_any_map := fun k hk => by
    obtain ⟨k', rfl⟩ : ∃ k', k = k' + 1 := ⟨k - 1, by omega⟩
    exact ⟨f17, _, _, PySem.W.mg_of X G a17, ok_law_any_map (by omega) z F17 h_law_names h_law_pick h_law_made h_law_turned_ties h_law_any_ties, k17, b17⟩
  have h_law_ring_map : FnL l.prog w K mg base ⟨K, clOf K⟩ "_law_ring_map" 7 g_law_ring_map := fun k hk => by
    obtain ⟨k', rfl⟩ : ∃ k', k = k' + 1 := ⟨k - 1, by omega⟩
    exact ⟨f18, _, _, PySem.W.mg_of X G a18, ok_law_ring_map (by omega) z F18 h_law_names h_law_pick h_law_made h_law_mixed h_law_turned_ties, k18, b18⟩
  have h_law_great_map : FnL l.prog w K mg base ⟨K, clOf K⟩ "_law_great_map" 7 g_law_great_map := fun k hk => by
    obtain ⟨k', rfl⟩ : ∃ k', k = k' + 1 := ⟨k - 1, by omega⟩
    exact ⟨f19, _, _, PySem.W.mg_of X G a19, ok_law_great_map (by omega) z F19 h_law_names h_law_pick h_law_good_ties h_law_any_ties h_law_made h_law_mixed h_law_turned_ties, k19, b19⟩
  have h_law_drawn_map : FnL l.prog w K mg base ⟨K, clOf K⟩ "_law_drawn_map" 8 g_law_drawn_map := fun k hk => by
    obtain ⟨k', rfl⟩ : ∃ k', k = k' + 1 := ⟨k - 1, by omega⟩
    exact ⟨f20, _, _, PySem.W.mg_of X G a20, ok_law_drawn_map (by omega) z F20 h_law_pick h_law_map h_law_any_map h_law_ring_map h_law_mixed h_law_made h_law_turned_ties h_law_any_ties h_law_great_map, k20, b20⟩
  have h_Map_posts : MtL l.prog w K mg base ⟨K, clOf K⟩ "Map" "posts" 1 g_Map_posts := fun k hk => by
    obtain ⟨k', rfl⟩ : ∃ k', k = k' + 1 := ⟨k - 1, by omega⟩
    exact ⟨C_Map, f21, _, _, hC_Map, ⟨pg_Map, hd_Map, po_Map, sa_Map⟩, ⟨a21, i21, k21⟩, ok_Map_posts (by omega) z F21 , b21⟩
  have h_Map_check : MtL l.prog w K mg base ⟨K, clOf K⟩ "Map" "check" 3 g_Map_check := fun k hk => by
    obtain ⟨k', rfl⟩ : ∃ k', k = k' + 1 := ⟨k - 1, by omega⟩
    exact ⟨C_Map, f22, _, _, hC_Map, ⟨pg_Map, hd_Map, po_Map, sa_Map⟩, ⟨a22, i22, k22⟩, ok_Map_check (by omega) z F22 h_is_among, b22⟩
  have h_Map_near : MtL l.prog w K mg base ⟨K, clOf K⟩ "Map" "near" 4 g_Map_near := fun k hk => by
    obtain ⟨k', rfl⟩ : ∃ k', k = k' + 1 := ⟨k - 1, by omega⟩
    exact ⟨C_Map, f23, _, _, hC_Map, ⟨pg_Map, hd_Map, po_Map, sa_Map⟩, ⟨a23, i23, k23⟩, ok_Map_near (by omega) z F23 h_Map_check, b23⟩
  have h_piece_of : FnL l.prog w K mg base ⟨K, clOf K⟩ "piece_of" 5 g_piece_of := fun k hk => by
    obtain ⟨k', rfl⟩ : ∃ k', k = k' + 1 := ⟨k - 1, by omega⟩
    exact ⟨f24, _, _, PySem.W.mg_of X G a24, ok_piece_of (by omega) z F24 h_Map_near, k24, b24⟩
  have h_pieces_of : FnL l.prog w K mg base ⟨K, clOf K⟩ "pieces_of" 6 g_pieces_of := fun k hk => by
    obtain ⟨k', rfl⟩ : ∃ k', k = k' + 1 := ⟨k - 1, by omega⟩
    exact ⟨f25, _, _, PySem.W.mg_of X G a25, ok_pieces_of (by omega) z F25 h_Map_posts h_piece_of, k25, b25⟩
  have h_law_some_of : FnL l.prog w K mg base ⟨K, clOf K⟩ "_law_some_of" 2 g_law_some_of := fun k hk => by
    obtain ⟨k', rfl⟩ : ∃ k', k = k' + 1 := ⟨k - 1, by omega⟩
    exact ⟨f26, _, _, PySem.W.mg_of X G a26, ok_law_some_of (by omega) z F26 h_law_pick, k26, b26⟩
  have h_Map_ties : MtL l.prog w K mg base ⟨K, clOf K⟩ "Map" "ties" 1 g_Map_ties := fun k hk => by
    obtain ⟨k', rfl⟩ : ∃ k', k = k' + 1 := ⟨k - 1, by omega⟩
    exact ⟨C_Map, f27, _, _, hC_Map, ⟨pg_Map, hd_Map, po_Map, sa_Map⟩, ⟨a27, i27, k27⟩, ok_Map_ties (by omega) z F27 , b27⟩
  have h_part_map : FnL l.prog w K mg base ⟨K, clOf K⟩ "part_map" 6 g_part_map := fun k hk => by
    obtain ⟨k', rfl⟩ : ∃ k', k = k' + 1 := ⟨k - 1, by omega⟩
    exact ⟨f28, _, _, PySem.W.mg_of X G a28, ok_part_map (by omega) z F28 h_Map_check h_Map_ties h_Map___init__ h_Map_posts, k28, b28⟩
  have h_map_without : FnL l.prog w K mg base ⟨K, clOf K⟩ "map_without" 7 g_map_without := fun k hk => by
    obtain ⟨k', rfl⟩ : ∃ k', k = k' + 1 := ⟨k - 1, by omega⟩
    exact ⟨f29, _, _, PySem.W.mg_of X G a29, ok_map_without (by omega) z F29 h_Map_check h_part_map h_Map_posts, k29, b29⟩
  have h_joined_maps : FnL l.prog w K mg base ⟨K, clOf K⟩ "joined_maps" 6 g_joined_maps := fun k hk => by
    obtain ⟨k', rfl⟩ : ∃ k', k = k' + 1 := ⟨k - 1, by omega⟩
    exact ⟨f30, _, _, PySem.W.mg_of X G a30, ok_joined_maps (by omega) z F30 h_Map___init__ h_Map_posts h_Map_ties, k30, b30⟩
  have h_Map___eq__ : MtL l.prog w K mg base ⟨K, clOf K⟩ "Map" "__eq__" 1 g_Map___eq__ := fun k hk => by
    obtain ⟨k', rfl⟩ : ∃ k', k = k' + 1 := ⟨k - 1, by omega⟩
    exact ⟨C_Map, f31, _, _, hC_Map, ⟨pg_Map, hd_Map, po_Map, sa_Map⟩, ⟨a31, i31, k31⟩, ok_Map___eq__ (by omega) z F31 , b31⟩
  have h_without_tie : FnL l.prog w K mg base ⟨K, clOf K⟩ "without_tie" 6 g_without_tie := fun k hk => by
    obtain ⟨k', rfl⟩ : ∃ k', k = k' + 1 := ⟨k - 1, by omega⟩
    exact ⟨f32, _, _, PySem.W.mg_of X G a32, ok_without_tie (by omega) z F32 h_Map_check h_Map___init__ h_Map_posts h_Map_ties, k32, b32⟩
  have h_with_tie : FnL l.prog w K mg base ⟨K, clOf K⟩ "with_tie" 7 g_with_tie := fun k hk => by
    obtain ⟨k', rfl⟩ : ∃ k', k = k' + 1 := ⟨k - 1, by omega⟩
    exact ⟨f33, _, _, PySem.W.mg_of X G a33, ok_with_tie (by omega) z F33 h_without_tie h_Map___init__ h_Map_posts h_Map_ties, k33, b33⟩
  have h_Map_is_near : MtL l.prog w K mg base ⟨K, clOf K⟩ "Map" "is_near" 4 g_Map_is_near := fun k hk => by
    obtain ⟨k', rfl⟩ : ∃ k', k = k' + 1 := ⟨k - 1, by omega⟩
    exact ⟨C_Map, f34, _, _, hC_Map, ⟨pg_Map, hd_Map, po_Map, sa_Map⟩, ⟨a34, i34, k34⟩, ok_Map_is_near (by omega) z F34 h_Map_check, b34⟩
  have h_both_near : FnL l.prog w K mg base ⟨K, clOf K⟩ "both_near" 5 g_both_near := fun k hk => by
    obtain ⟨k', rfl⟩ : ∃ k', k = k' + 1 := ⟨k - 1, by omega⟩
    exact ⟨f35, _, _, PySem.W.mg_of X G a35, ok_both_near (by omega) z F35 h_Map_check h_Map_near h_Map_is_near, k35, b35⟩
  have h_law_grown_right : FnL l.prog w K mg base ⟨K, clOf K⟩ "_law_grown_right" 8 g_law_grown_right := fun k hk => by
    obtain ⟨k', rfl⟩ : ∃ k', k = k' + 1 := ⟨k - 1, by omega⟩
    exact ⟨f36, _, _, PySem.W.mg_of X G a36, ok_law_grown_right (by omega) z F36 h_Map___init__ h_law_mixed h_pieces_of h_with_tie h_Map___eq__ h_without_tie h_both_near h_Map_ties, k36, b36⟩
  have h_law_shrunk_right : FnL l.prog w K mg base ⟨K, clOf K⟩ "_law_shrunk_right" 8 g_law_shrunk_right := fun k hk => by
    obtain ⟨k', rfl⟩ : ∃ k', k = k' + 1 := ⟨k - 1, by omega⟩
    exact ⟨f37, _, _, PySem.W.mg_of X G a37, ok_law_shrunk_right (by omega) z F37 h_Map___init__ h_law_mixed h_Map_ties h_without_tie h_pieces_of h_Map___eq__ h_with_tie, k37, b37⟩
  exact ok_law (k := 8) (by decide) z F38 h_law_source h_law_drawn_map h_law_grown_right h_law_shrunk_right h_Map___init__ h_pieces_of h_joined_maps h_part_map h_Map___eq__ h_Map_posts h_Map_ties h_law_some_of h_map_without
theorem law_sp {K : PySem.W.Frag} {H : Hp} {a : Addr} {ns : List Int} (hl : ns.length ≤ 63) (hO : Only H) (hS : SqL K H a (ns.map V.int)) : spOf ⟨K, clOf K⟩ g_law [.ref a] H (fun v _ => v = .bl true) fun _ _ _ => False := by
  obtain ⟨ρo, e⟩ := law_true ns hl
  refine ⟨rfl, H, [.scr ns], [[]], ⟨Sub.refl H, fun b xs e => ?_, rfl, rfl, rfl, List.nodup_nil, fun _ h => (nomatch h), fun _ h => (nomatch h), fun i d h => ?_, fun _ h => (nomatch h)⟩, ?_⟩
  · rcases hO b with q | ⟨o, ys, q⟩
    · rw [q] at e; cases e
    · rw [q] at e; cases e
  · cases i with
    | zero =>
      simp only [List.map_cons, List.getElem?_cons_zero, Option.some.injEq] at h
      subst h
      exact ⟨.ref a, [], rfl, rfl, rfl, .inl (by unfold Rep; exact ⟨a, rfl, hS, Nat.le_trans hl (by decide)⟩)⟩
    | succ i => simp at h
  · rw [e]
    intro v F' H' fps' fp _ _ z
    have z2 := z.2
    unfold Rep at z2
    exact z2
end Lw
end
open PySem PySem.W PyProof.Rows
set_option maxRecDepth 100000 in
set_option maxHeartbeats 0 in
theorem PySem.Challenge.cw_crossties_k09_whole_maps_put_together_holds : PySem.Challenge.rw_crossties_k09_whole_maps_put_together.Holds := by
  w_on; o_law; k_head; (case hw => w_witness2)
  k_fill
  refine DM.walk_ofG (l := PySem.Challenge.rw_crossties_k09_whole_maps_put_together) (n := 63) (k := 9) (x := "_law_script") (CX := fun w => L2.CX PySem.Challenge.rw_crossties_k09_whole_maps_put_together.prog w) (sp := fun w => DM.spOf ⟨_, Lw.clOf _⟩ Lw.g_law) rfl (by decide) rfl ⟨⟨rfl, by decide, by decide⟩, rfl⟩ (fun w h Y => PySem.W.kIn_of Y) ?F (fun w H a ns hl hO hS => Lw.law_sp hl hO hS) (fun w H s e s' z => Lw.no_ex z)
  case F =>
    intro w mg fa h KX G hmg
    refine' Lw.all_mk KX G hmg ?aC_Map ?pg_Map ?hd_Map ?po_Map ?mk_Map ?kc_Map ?sa_Map ?n_Map_own_posts ?n_Map_own_numbers ?n_Map_own_near ?a0 ?l0 ?c0 ?k0 ?a1 ?l1 ?c1 ?k1 ?a2 ?l2 ?c2 ?k2 ?a3 ?l3 ?c3 ?k3 ?a4 ?l4 ?c4 ?k4 ?a5 ?l5 ?c5 ?k5 ?a6 ?l6 ?c6 ?k6 ?a7 ?l7 ?c7 ?k7 ?a8 ?l8 ?c8 ?k8 ?a9 ?l9 ?c9 ?k9 ?a10 ?l10 ?c10 ?k10 ?a11 ?i11 ?l11 ?c11 ?k11 ?a12 ?l12 ?c12 ?k12 ?a13 ?l13 ?c13 ?k13 ?a14 ?l14 ?c14 ?k14 ?a15 ?l15 ?c15 ?k15 ?a16 ?l16 ?c16 ?k16 ?a17 ?l17 ?c17 ?k17 ?a18 ?l18 ?c18 ?k18 ?a19 ?l19 ?c19 ?k19 ?a20 ?l20 ?c20 ?k20 ?a21 ?i21 ?l21 ?c21 ?k21 ?a22 ?i22 ?l22 ?c22 ?k22 ?a23 ?i23 ?l23 ?c23 ?k23 ?a24 ?l24 ?c24 ?k24 ?a25 ?l25 ?c25 ?k25 ?a26 ?l26 ?c26 ?k26 ?a27 ?i27 ?l27 ?c27 ?k27 ?a28 ?l28 ?c28 ?k28 ?a29 ?l29 ?c29 ?k29 ?a30 ?l30 ?c30 ?k30 ?a31 ?i31 ?l31 ?c31 ?k31 ?a32 ?l32 ?c32 ?k32 ?a33 ?l33 ?c33 ?k33 ?a34 ?i34 ?l34 ?c34 ?k34 ?a35 ?l35 ?c35 ?k35 ?a36 ?l36 ?c36 ?k36 ?a37 ?l37 ?c37 ?k37 ?a38 ?l38 ?c38 ?k38 ?ne_Map ?so_Map ?ca_Map ?cm_Map ?cg_ ?ct_ ?z_abs ?z_all ?z_enumerate ?z_int ?z_isinstance ?z_len ?z_list ?z_max ?z_range ?z_sorted ?z_str ?z_tuple ?g_FIGURES ?g_LETTERS
    (case aC_Map => k_is)
    (case pg_Map => k_is)
    (case hd_Map => k_is)
    (case po_Map => k_is)
    (case mk_Map => k_is)
    (case kc_Map => k_is)
    (case sa_Map => k_is)
    (case n_Map_own_posts => k_is)
    (case n_Map_own_numbers => k_is)
    (case n_Map_own_near => k_is)
    (case a0 => k_is)
    (case l0 => k_is)
    (case c0 => k_is)
    (case k0 => k_is)
    (case a1 => k_is)
    (case l1 => k_is)
    (case c1 => k_is)
    (case k1 => k_is)
    (case a2 => k_is)
    (case l2 => k_is)
    (case c2 => k_is)
    (case k2 => k_is)
    (case a3 => k_is)
    (case l3 => k_is)
    (case c3 => k_is)
    (case k3 => k_is)
    (case a4 => k_is)
    (case l4 => k_is)
    (case c4 => k_is)
    (case k4 => k_is)
    (case a5 => k_is)
    (case l5 => k_is)
    (case c5 => k_is)
    (case k5 => k_is)
    (case a6 => k_is)
    (case l6 => k_is)
    (case c6 => k_is)
    (case k6 => k_is)
    (case a7 => k_is)
    (case l7 => k_is)
    (case c7 => k_is)
    (case k7 => k_is)
    (case a8 => k_is)
    (case l8 => k_is)
    (case c8 => k_is)
    (case k8 => k_is)
    (case a9 => k_is)
    (case l9 => k_is)
    (case c9 => k_is)
    (case k9 => k_is)
    (case a10 => k_is)
    (case l10 => k_is)
    (case c10 => k_is)
    (case k10 => k_is)
    (case a11 => k_is)
    (case i11 => k_is)
    (case l11 => k_is)
    (case c11 => k_is)
    (case k11 => k_is)
    (case a12 => k_is)
    (case l12 => k_is)
    (case c12 => k_is)
    (case k12 => k_is)
    (case a13 => k_is)
    (case l13 => k_is)
    (case c13 => k_is)
    (case k13 => k_is)
    (case a14 => k_is)
    (case l14 => k_is)
    (case c14 => k_is)
    (case k14 => k_is)
    (case a15 => k_is)
    (case l15 => k_is)
    (case c15 => k_is)
    (case k15 => k_is)
    (case a16 => k_is)
    (case l16 => k_is)
    (case c16 => k_is)
    (case k16 => k_is)
    (case a17 => k_is)
    (case l17 => k_is)
    (case c17 => k_is)
    (case k17 => k_is)
    (case a18 => k_is)
    (case l18 => k_is)
    (case c18 => k_is)
    (case k18 => k_is)
    (case a19 => k_is)
    (case l19 => k_is)
    (case c19 => k_is)
    (case k19 => k_is)
    (case a20 => k_is)
    (case l20 => k_is)
    (case c20 => k_is)
    (case k20 => k_is)
    (case a21 => k_is)
    (case i21 => k_is)
    (case l21 => k_is)
    (case c21 => k_is)
    (case k21 => k_is)
    (case a22 => k_is)
    (case i22 => k_is)
    (case l22 => k_is)
    (case c22 => k_is)
    (case k22 => k_is)
    (case a23 => k_is)
    (case i23 => k_is)
    (case l23 => k_is)
    (case c23 => k_is)
    (case k23 => k_is)
    (case a24 => k_is)
    (case l24 => k_is)
    (case c24 => k_is)
    (case k24 => k_is)
    (case a25 => k_is)
    (case l25 => k_is)
    (case c25 => k_is)
    (case k25 => k_is)
    (case a26 => k_is)
    (case l26 => k_is)
    (case c26 => k_is)
    (case k26 => k_is)
    (case a27 => k_is)
    (case i27 => k_is)
    (case l27 => k_is)
    (case c27 => k_is)
    (case k27 => k_is)
    (case a28 => k_is)
    (case l28 => k_is)
    (case c28 => k_is)
    (case k28 => k_is)
    (case a29 => k_is)
    (case l29 => k_is)
    (case c29 => k_is)
    (case k29 => k_is)
    (case a30 => k_is)
    (case l30 => k_is)
    (case c30 => k_is)
    (case k30 => k_is)
    (case a31 => k_is)
    (case i31 => k_is)
    (case l31 => k_is)
    (case c31 => k_is)
    (case k31 => k_is)
    (case a32 => k_is)
    (case l32 => k_is)
    (case c32 => k_is)
    (case k32 => k_is)
    (case a33 => k_is)
    (case l33 => k_is)
    (case c33 => k_is)
    (case k33 => k_is)
    (case a34 => k_is)
    (case i34 => k_is)
    (case l34 => k_is)
    (case c34 => k_is)
    (case k34 => k_is)
    (case a35 => k_is)
    (case l35 => k_is)
    (case c35 => k_is)
    (case k35 => k_is)
    (case a36 => k_is)
    (case l36 => k_is)
    (case c36 => k_is)
    (case k36 => k_is)
    (case a37 => k_is)
    (case l37 => k_is)
    (case c37 => k_is)
    (case k37 => k_is)
    (case a38 => k_is)
    (case l38 => k_is)
    (case c38 => k_is)
    (case k38 => k_is)
    (case ne_Map => k_is)
    (case so_Map => k_is)
    (case ca_Map => k_is)
    (case cm_Map => k_is)
    (case cg_ => k_is)
    (case ct_ => k_is)
    (case z_abs => k_is)
    (case z_all => k_is)
    (case z_enumerate => k_is)
    (case z_int => k_is)
    (case z_isinstance => k_is)
    (case z_len => k_is)
    (case z_list => k_is)
    (case z_max => k_is)
    (case z_range => k_is)
    (case z_sorted => k_is)
    (case z_str => k_is)
    (case z_tuple => k_is)
    (case g_FIGURES => k_is)
    (case g_LETTERS => k_is)
