import PyProof.Rows.All
import HandS.ForMost
import HandS.Rev
import HandS.TupMul
import HandS.IsInst
import HandS.More
import HandS.Wide
import PyProof.StrCalls6
import HandS.Text
import HandS.TupAny
import HandS.Flow
import HandS.Zip
import HandS.Comp
import HandS.Iter
import KE.GoesEnum
import HandS.TryOnly
import HandS.Words
import HandS.Deep
import HandS.TupLe
import HandS.SortOrd
import HandS.SortRule
import HandS.SortKw
import KE.KDictCopyH
import KE.KDictWalk
import KE.KDictDisplayH
import HandS.Style
import HandS.TupLen
import HandS.WordsDict
import HandS.Conv
import HandS.SortInts
import HandS.Strs
import HandS.SetFor
import HandS.TupSets
import HandS.ReCall
import HandS.ReplaceLit
import KE.KSortKeySt
import HandS.Slots
import HandS.ExcOwn
import HandS.HeadHook3
import PySem.Challenge.RW_loopsclosed_k46_whole_safe_moves_and_tra
set_option Elab.async false
set_option linter.all false
set_option maxRecDepth 100000
set_option maxHeartbeats 4000000
/-! The engine, part a: pure data, and how it lies in the heap. -/
namespace En
open PySem PySem.Spec PyProof.Rows L2

/-- pure data -/
inductive D where
  | non | bl (b : Bool) | int (i : Int) | str (x : Str) | tup (xs : List D) | lst (xs : List D) | dct (ks vs : List D) | fn (ns : List Int) | box
  deriving Inhabited

/-- where things stand: the written part, the module's names, the box (its list, its cells) -/
structure Rx where
  K : PySem.W.Frag
  w : World
  mg : Str → Option Value
  bx : Option (Addr × Addr)

/-- a list that may be read: one of those at P; the script -/
def LstAt (R : Rx) (P : Addr → Prop) (H : Hp) (a : Addr) (xs : List V) : Prop :=
  (P a ∧ H a = some (.lst xs)) ∨ ∃ o, H a = some (.frz o (.lst xs))
theorem LstAt.sq {R : Rx} {P : Addr → Prop} {H : Hp} {a : Addr} {xs : List V} (h : LstAt R P H a xs) : SqL R.K H a xs := by
  rcases h with ⟨_, h⟩ | ⟨o, h⟩
  · exact .inl (.inl h)
  · exact .inl (.inr ⟨o, h⟩)

/-- the script, wherever it stands -/
def ScrAt (K : PySem.W.Frag) (H : Hp) (a : Addr) (xs : List V) : Prop := (∃ o, H a = some (.frz o (.lst xs))) ∨ SqL K (fun _ => none) a xs
theorem SqL.empty {K : PySem.W.Frag} {H : Hp} {a : Addr} {xs : List V} (h : SqL K (fun _ => none) a xs) : SqL K H a xs := by
  rcases h with (h | ⟨o, h⟩) | h
  · cases h
  · cases h
  · exact .inr h
theorem ScrAt.sq {K : PySem.W.Frag} {H : Hp} {a : Addr} {xs : List V} (h : ScrAt K H a xs) : SqL K H a xs := by
  rcases h with ⟨o, h⟩ | h
  · exact .inl (.inr ⟨o, h⟩)
  · exact SqL.empty h
theorem ScrAt.of {K : PySem.W.Frag} {H : Hp} {a : Addr} {xs : List V} (n : ∀ b, H b = none ∨ ∃ o ys, H b = some (.frz o (.lst ys))) (h : SqL K H a xs) : ScrAt K H a xs := by
  rcases h with (h | ⟨o, h⟩) | h
  · rcases n a with z | ⟨o, ys, z⟩
    · rw [z] at h; cases h
    · rw [z] at h; cases h
  · exact .inl ⟨o, h⟩
  · exact .inr (.inr h)
/-- a key as a V (flat) -/
def keyD : D → Option Key
  | .int i => some (.inl i)
  | .str x => some (.inr x)
  | _ => none
def keysD : List D → Option (List Key)
  | [] => some []
  | d :: ds => match keyD d, keysD ds with
    | some k, some ks => some (k :: ks)
    | _, _ => none
/-- the place of a text among keys -/
def atS (z : Str) : List D → List V → Option V
  | .str x :: ks, v :: vs => if x = z then some v else atS z ks vs
  | _ :: ks, _ :: vs => atS z ks vs
  | _, _ => none

/-- a dict: with flat keys; with keys that are tuples of such; one of the text with text keys -/
def DctAt (R : Rx) (P : Addr → Prop) (H : Hp) (a : Addr) (ks : List D) (xs : List V) : Prop :=
  (P a ∧ ∃ kvs : List (Key × V), H a = some (.dK kvs) ∧ ks.map keyD = kvs.map (fun kv => some kv.1) ∧ xs = kvs.map (·.2)) ∨
  (P a ∧ ∃ kvs : List (List Key × V), H a = some (.dT kvs) ∧ ks.map (fun k => match k with | .tup ds => keysD ds | _ => none) = kvs.map (fun kv => some kv.1) ∧ xs = kvs.map (·.2)) ∨
  ((∃ es n, KDict R.K R.w a es n) ∧ ks ≠ [] ∧ (∀ k ∈ ks, ∃ z, k = .str z) ∧ ks.length = xs.length ∧ ∀ z, ∃ r, PySem.W.nsIn R.K a z = some r ∧ RelO (atS z ks xs) r)

mutual
def Rep (R : Rx) (P : Addr → Prop) (H : Hp) : D → V → Prop
  | .non, v => v = .non
  | .bl b, v => v = .bl b
  | .int i, v => v = .int i
  | .str x, v => v = .str x ∧ PyData.strOk x = true
  | .tup ds, v => ∃ a xs, v = .ref a ∧ H a = some (.tup xs) ∧ Reps R P H ds xs
  | .lst ds, v => ∃ a xs, v = .ref a ∧ LstAt R P H a xs ∧ Reps R P H ds xs
  | .dct ks ds, v => ∃ a xs, v = .ref a ∧ DctAt R P H a ks xs ∧ Reps R P H ds xs
  | .fn ns, v => ∃ a, v = .ref a ∧ ScrAt R.K H a (ns.map V.int)
  | .box, v => ∃ b c, v = .ref b ∧ R.bx = some (b, c)
def Reps (R : Rx) (P : Addr → Prop) (H : Hp) : List D → List V → Prop
  | [], xs => xs = []
  | d :: ds, xs => ∃ x r, xs = x :: r ∧ Rep R P H d x ∧ Reps R P H ds r
end

/-- what stands at P, tuples and what is locked stay -/
def Ext (P : Addr → Prop) (H H' : Hp) : Prop := ∀ a o, H a = some o → (P a ∨ (∃ xs, o = .tup xs) ∨ ∃ ob u, o = .frz ob u) → H' a = some o
theorem Ext.refl (P : Addr → Prop) (H : Hp) : Ext P H H := fun _ _ h _ => h
theorem Ext.sqT {K : PySem.W.Frag} {P : Addr → Prop} {H H' : Hp} (e : Ext P H H') {a : Addr} {xs : List V} (h : SqT K H a xs) : SqT K H' a xs := by
  rcases h with (h | ⟨o, h⟩) | h
  · exact .inl (.inl (e _ _ h (.inr (.inl ⟨_, rfl⟩))))
  · exact .inl (.inr ⟨o, e _ _ h (.inr (.inr ⟨_, _, rfl⟩))⟩)
  · exact .inr h
section
variable {R R' : Rx} {P P' : Addr → Prop} {H H' : Hp}
/-- the box may have come -/
structure RxLe (R R' : Rx) : Prop where
  K : R'.K = R.K
  w : R'.w = R.w
  mg : R'.mg = R.mg
  bx : ∀ p, R.bx = some p → R'.bx = some p
theorem RxLe.refl (R : Rx) : RxLe R R := ⟨rfl, rfl, rfl, fun _ h => h⟩
theorem RxLe.trans {R R' R'' : Rx} (a : RxLe R R') (b : RxLe R' R'') : RxLe R R'' := ⟨b.K.trans a.K, b.w.trans a.w, b.mg.trans a.mg, fun p h => b.bx p (a.bx p h)⟩
theorem LstAt.mono (hr : RxLe R R') (hp : ∀ a, P a → P' a) (e : Ext P H H') {a : Addr} {xs : List V} (h : LstAt R P H a xs) : LstAt R' P' H' a xs := by
  rcases h with ⟨p, h⟩ | ⟨o, h⟩
  · exact .inl ⟨hp a p, e _ _ h (.inl p)⟩
  · exact .inr ⟨o, e _ _ h (.inr (.inr ⟨_, _, rfl⟩))⟩
theorem DctAt.mono (hr : RxLe R R') (hp : ∀ a, P a → P' a) (e : Ext P H H') {a : Addr} {ks : List D} {xs : List V} (h : DctAt R P H a ks xs) : DctAt R' P' H' a ks xs := by
  rcases h with ⟨p, kvs, h, h2⟩ | ⟨p, kvs, h, h2⟩ | h
  · exact .inl ⟨hp a p, kvs, e _ _ h (.inl p), h2⟩
  · exact .inr (.inl ⟨hp a p, kvs, e _ _ h (.inl p), h2⟩)
  · unfold DctAt; rw [hr.K, hr.w]; exact .inr (.inr h)
mutual
theorem Rep.mono (hr : RxLe R R') (hp : ∀ a, P a → P' a) (e : Ext P H H') : ∀ (d : D) (v : V), Rep R P H d v → Rep R' P' H' d v
  | .non, v, h => by simpa only [Rep] using h
  | .bl _, v, h => by simpa only [Rep] using h
  | .int _, v, h => by simpa only [Rep] using h
  | .str _, v, h => by simpa only [Rep] using h
  | .tup ds, v, h => by
    simp only [Rep] at h ⊢
    obtain ⟨a, xs, e1, h1, h2⟩ := h
    exact ⟨a, xs, e1, e _ _ h1 (.inr (.inl ⟨_, rfl⟩)), Reps.mono hr hp e ds xs h2⟩
  | .lst ds, v, h => by
    simp only [Rep] at h ⊢
    obtain ⟨a, xs, e1, h1, h2⟩ := h
    exact ⟨a, xs, e1, h1.mono hr hp e, Reps.mono hr hp e ds xs h2⟩
  | .dct ks ds, v, h => by
    simp only [Rep] at h ⊢
    obtain ⟨a, xs, e1, h1, h2⟩ := h
    exact ⟨a, xs, e1, h1.mono hr hp e, Reps.mono hr hp e ds xs h2⟩
  | .fn ns, v, h => by
    simp only [Rep] at h ⊢
    obtain ⟨a, e1, h1⟩ := h
    refine ⟨a, e1, ?_⟩
    rw [hr.K]
    rcases h1 with ⟨o, h1⟩ | h1
    · exact .inl ⟨o, e _ _ h1 (.inr (.inr ⟨_, _, rfl⟩))⟩
    · exact .inr h1
  | .box, v, h => by
    simp only [Rep] at h ⊢
    obtain ⟨b, c, e1, h1⟩ := h
    exact ⟨b, c, e1, hr.bx _ h1⟩
theorem Reps.mono (hr : RxLe R R') (hp : ∀ a, P a → P' a) (e : Ext P H H') : ∀ (ds : List D) (vs : List V), Reps R P H ds vs → Reps R' P' H' ds vs
  | [], vs, h => by simpa only [Reps] using h
  | d :: ds, vs, h => by
    simp only [Reps] at h ⊢
    obtain ⟨x, r, e1, h1, h2⟩ := h
    exact ⟨x, r, e1, Rep.mono hr hp e d x h1, Reps.mono hr hp e ds r h2⟩
end
mutual
/-- a value's lists stand in the heap -/
theorem Rep.dom : ∀ (d : D) (v : V), Rep R P H d v → Rep R (fun a => P a ∧ ∃ o, H a = some o) H d v
  | .non, v, h => by simpa only [Rep] using h
  | .bl _, v, h => by simpa only [Rep] using h
  | .int _, v, h => by simpa only [Rep] using h
  | .str _, v, h => by simpa only [Rep] using h
  | .tup ds, v, h => by
    simp only [Rep] at h ⊢
    obtain ⟨a, xs, e1, h1, h2⟩ := h
    exact ⟨a, xs, e1, h1, Reps.dom ds xs h2⟩
  | .lst ds, v, h => by
    simp only [Rep] at h ⊢
    obtain ⟨a, xs, e1, h1, h2⟩ := h
    refine ⟨a, xs, e1, ?_, Reps.dom ds xs h2⟩
    rcases h1 with ⟨p, q⟩ | q
    · exact .inl ⟨⟨p, _, q⟩, q⟩
    · exact .inr q
  | .dct ks ds, v, h => by
    simp only [Rep] at h ⊢
    obtain ⟨a, xs, e1, h1, h2⟩ := h
    refine ⟨a, xs, e1, ?_, Reps.dom ds xs h2⟩
    rcases h1 with ⟨p, kvs, q, q2⟩ | ⟨p, kvs, q, q2⟩ | q
    · exact .inl ⟨⟨p, _, q⟩, kvs, q, q2⟩
    · exact .inr (.inl ⟨⟨p, _, q⟩, kvs, q, q2⟩)
    · exact .inr (.inr q)
  | .fn x, v, h => by simpa only [Rep] using h
  | .box, v, h => by simpa only [Rep] using h
theorem Reps.dom : ∀ (ds : List D) (vs : List V), Reps R P H ds vs → Reps R (fun a => P a ∧ ∃ o, H a = some o) H ds vs
  | [], vs, h => by simpa only [Reps] using h
  | d :: ds, vs, h => by
    simp only [Reps] at h ⊢
    obtain ⟨x, r, e1, h1, h2⟩ := h
    exact ⟨x, r, e1, Rep.dom d x h1, Reps.dom ds r h2⟩
end
theorem Reps.nil : Reps R P H [] [] := by simp only [Reps]
theorem Reps.cons {d : D} {ds : List D} {x : V} {xs : List V} (h : Rep R P H d x) (t : Reps R P H ds xs) : Reps R P H (d :: ds) (x :: xs) := by
  simp only [Reps]; exact ⟨x, xs, rfl, h, t⟩
theorem Reps.inv {d : D} {ds : List D} {xs : List V} (h : Reps R P H (d :: ds) xs) : ∃ x r, xs = x :: r ∧ Rep R P H d x ∧ Reps R P H ds r := by
  simpa only [Reps] using h
theorem Reps.invNil {xs : List V} (h : Reps R P H [] xs) : xs = [] := by simpa only [Reps] using h
theorem Reps.length : ∀ {ds : List D} {xs : List V}, Reps R P H ds xs → ds.length = xs.length
  | [], _, h => by rw [h.invNil]; rfl
  | d :: ds, xs, h => by
    obtain ⟨x, r, rfl, _, t⟩ := h.inv
    simp [Reps.length t]
theorem Reps.get : ∀ {ds : List D} {xs : List V} {i : Nat} {d : D}, Reps R P H ds xs → ds[i]? = some d → ∃ x, xs[i]? = some x ∧ Rep R P H d x
  | [], _, i, d, _, e => by simp at e
  | d' :: ds, xs, 0, d, h, e => by
    obtain ⟨x, r, rfl, hx, t⟩ := h.inv
    simp at e; subst e
    exact ⟨x, rfl, hx⟩
  | d' :: ds, xs, i + 1, d, h, e => by
    obtain ⟨x, r, rfl, hx, t⟩ := h.inv
    obtain ⟨y, e1, e2⟩ := Reps.get (i := i) t (by simpa using e)
    exact ⟨y, by simpa using e1, e2⟩
theorem Reps.get' : ∀ {ds : List D} {xs : List V} {i : Nat} {x : V}, Reps R P H ds xs → xs[i]? = some x → ∃ d, ds[i]? = some d ∧ Rep R P H d x
  | [], _, i, x, h, e => by rw [h.invNil] at e; simp at e
  | d' :: ds, xs, 0, x, h, e => by
    obtain ⟨y, r, rfl, hx, t⟩ := h.inv
    simp at e; subst e
    exact ⟨d', rfl, hx⟩
  | d' :: ds, xs, i + 1, x, h, e => by
    obtain ⟨y, r, rfl, hx, t⟩ := h.inv
    obtain ⟨d, e1, e2⟩ := Reps.get' (i := i) t (by simpa using e)
    exact ⟨d, by simpa using e1, e2⟩
theorem Reps.append : ∀ {ds es : List D} {xs ys : List V}, Reps R P H ds xs → Reps R P H es ys → Reps R P H (ds ++ es) (xs ++ ys)
  | [], _, _, _, h, t => by rw [h.invNil]; exact t
  | d :: ds, es, xs, ys, h, t => by
    obtain ⟨x, r, rfl, hx, t'⟩ := h.inv
    exact .cons hx (Reps.append t' t)
theorem Reps.take : ∀ {ds : List D} {xs : List V} (n : Nat), Reps R P H ds xs → Reps R P H (ds.take n) (xs.take n)
  | ds, xs, 0, h => by simp only [List.take_zero]; exact .nil
  | [], _, n + 1, h => by rw [h.invNil]; exact .nil
  | d :: ds, xs, n + 1, h => by
    obtain ⟨x, r, rfl, hx, t⟩ := h.inv
    exact .cons hx (Reps.take n t)
theorem Reps.drop : ∀ {ds : List D} {xs : List V} (n : Nat), Reps R P H ds xs → Reps R P H (ds.drop n) (xs.drop n)
  | ds, xs, 0, h => by simpa using h
  | [], _, n + 1, h => by rw [h.invNil]; exact .nil
  | d :: ds, xs, n + 1, h => by
    obtain ⟨x, r, rfl, hx, t⟩ := h.inv
    exact Reps.drop n t
theorem Reps.set {d : D} {x : V} (hx : Rep R P H d x) : ∀ {ds : List D} {xs : List V} (n : Nat), Reps R P H ds xs → Reps R P H (ds.set n d) (xs.set n x)
  | [], _, n, h => by rw [h.invNil]; exact .nil
  | d :: ds, xs, 0, h => by
    obtain ⟨y, r, rfl, hy, t⟩ := h.inv
    exact .cons hx t
  | d :: ds, xs, n + 1, h => by
    obtain ⟨y, r, rfl, hy, t⟩ := h.inv
    exact .cons hy (Reps.set hx n t)
theorem Reps.rev : ∀ {ds : List D} {xs : List V}, Reps R P H ds xs → Reps R P H ds.reverse xs.reverse
  | [], _, h => by rw [h.invNil]; exact .nil
  | d :: ds, xs, h => by
    obtain ⟨y, r, rfl, hy, t⟩ := h.inv
    rw [List.reverse_cons, List.reverse_cons]
    exact (Reps.rev t).append (.cons hy .nil)
theorem Reps.erase : ∀ {ds : List D} {xs : List V} (n : Nat), Reps R P H ds xs → Reps R P H (ds.eraseIdx n) (xs.eraseIdx n)
  | [], _, n, h => by rw [h.invNil]; exact .nil
  | d :: ds, xs, 0, h => by
    obtain ⟨y, r, rfl, hy, t⟩ := h.inv
    exact t
  | d :: ds, xs, n + 1, h => by
    obtain ⟨y, r, rfl, hy, t⟩ := h.inv
    exact .cons hy (Reps.erase n t)
theorem Reps.dropLast {ds : List D} {xs : List V} (h : Reps R P H ds xs) : Reps R P H ds.dropLast xs.dropLast := by
  rw [List.dropLast_eq_take, List.dropLast_eq_take, ← h.length]
  exact h.take _
theorem Reps.rep {ds : List D} {xs : List V} (h : Reps R P H ds xs) : ∀ k : Nat, Reps R P H (List.replicate k ds).flatten (List.replicate k xs).flatten
  | 0 => .nil
  | k + 1 => by
    rw [List.replicate_succ, List.flatten_cons, List.replicate_succ, List.flatten_cons]
    exact h.append (h.rep k)
end

/-! ### data that == tells -/
mutual
def py : D → Option PyData
  | .non => some .none
  | .bl b => some (.bool b)
  | .int i => some (.int i)
  | .str x => some (.str x)
  | .tup ds => (pys ds).map .tuple
  | .lst ds => (pys ds).map .list
  | _ => none
def pys : List D → Option (List PyData)
  | [] => some []
  | d :: ds => match py d, pys ds with
    | some p, some ps => some (p :: ps)
    | _, _ => none
end
section
variable {R : Rx} {P : Addr → Prop} {H : Hp}
mutual
theorem Rep.dp : ∀ (d : D) (v : V) (p : PyData), Rep R P H d v → py d = some p → Dp R.K H v p ∧ p.canLay0 = true
  | .non, v, p, h, e => by
    simp only [Rep] at h; simp only [py, Option.some.injEq] at e; subst h e; exact ⟨.non, rfl⟩
  | .bl b, v, p, h, e => by
    simp only [Rep] at h; simp only [py, Option.some.injEq] at e; subst h e; exact ⟨.bl b, rfl⟩
  | .int b, v, p, h, e => by
    simp only [Rep] at h; simp only [py, Option.some.injEq] at e; subst h e; exact ⟨.int b, rfl⟩
  | .str b, v, p, h, e => by
    simp only [Rep] at h; simp only [py, Option.some.injEq] at e
    obtain ⟨h, h2⟩ := h
    subst h e
    exact ⟨.str b, by simpa only [PyData.canLay0] using h2⟩
  | .tup ds, v, p, h, e => by
    simp only [Rep] at h
    obtain ⟨a, xs, rfl, h1, h2⟩ := h
    cases q : pys ds with
    | none => simp [py, q] at e
    | some ps =>
      simp [py, q] at e; subst e
      obtain ⟨r1, r2⟩ := Reps.dp ds xs ps h2 q
      exact ⟨.tup (.inl (.inl h1)) r1, by simpa only [PyData.canLay0] using r2⟩
  | .lst ds, v, p, h, e => by
    simp only [Rep] at h
    obtain ⟨a, xs, rfl, h1, h2⟩ := h
    cases q : pys ds with
    | none => simp [py, q] at e
    | some ps =>
      simp [py, q] at e; subst e
      obtain ⟨r1, r2⟩ := Reps.dp ds xs ps h2 q
      exact ⟨.lst h1.sq r1, by simpa only [PyData.canLay0] using r2⟩
  | .dct _ _, v, p, h, e => by simp [py] at e
  | .fn _, v, p, h, e => by simp [py] at e
  | .box, v, p, h, e => by simp [py] at e
theorem Reps.dp : ∀ (ds : List D) (vs : List V) (ps : List PyData), Reps R P H ds vs → pys ds = some ps → DpAll R.K H vs ps ∧ PyData.canLayAll0 ps = true
  | [], vs, ps, h, e => by
    simp only [Reps] at h; simp only [pys, Option.some.injEq] at e; subst h e; exact ⟨.nil, rfl⟩
  | d :: ds, vs, ps, h, e => by
    obtain ⟨x, r, rfl, h1, h2⟩ := h.inv
    cases q : py d with
    | none => simp [pys, q] at e
    | some p =>
      cases q2 : pys ds with
      | none => simp [pys, q, q2] at e
      | some ps' =>
        simp [pys, q, q2] at e; subst e
        obtain ⟨r1, r2⟩ := Rep.dp d x p h1 q
        obtain ⟨r3, r4⟩ := Reps.dp ds r ps' h2 q2
        exact ⟨.cons r1 r3, by simp only [PyData.canLayAll0, r2, r4, Bool.and_self]⟩
end
end
end En

/-! The engine, part aa: the order of ints and tuples of such (as the program compares them). -/
namespace En
open PySem PySem.Spec PyProof.Rows L2
mutual
def cmpP : PyData → PyData → Ordering
  | .int i, q => match q with
    | .int j => compare i j
    | _ => .lt
  | .tuple xs, q => match q with
    | .int _ => .gt
    | .tuple ys => cmpPs xs ys
    | _ => .lt
  | .none, q => match q with
    | .int _ => .gt
    | .tuple _ => .gt
    | _ => .eq
  | .bool _, q => match q with
    | .int _ => .gt
    | .tuple _ => .gt
    | _ => .eq
  | .str _, q => match q with
    | .int _ => .gt
    | .tuple _ => .gt
    | _ => .eq
  | .list _, q => match q with
    | .int _ => .gt
    | .tuple _ => .gt
    | _ => .eq
  | .dict _, q => match q with
    | .int _ => .gt
    | .tuple _ => .gt
    | _ => .eq
def cmpPs : List PyData → List PyData → Ordering
  | [], ys => match ys with
    | [] => .eq
    | _ :: _ => .lt
  | x :: xs, ys => match ys with
    | [] => .gt
    | y :: ys => (cmpP x y).then (cmpPs xs ys)
end
mutual
def okP : PyData → PyData → Bool
  | .int _, q => match q with
    | .int _ => true
    | _ => false
  | .tuple xs, q => match q with
    | .tuple ys => okPs xs ys
    | _ => false
  | _, _ => false
def okPs : List PyData → List PyData → Bool
  | [], _ => true
  | x :: xs, ys => match ys with
    | [] => true
    | y :: ys => okP x y && okPs xs ys
end
def ltP (p q : PyData) : Bool := cmpP p q == .lt
def leP (p q : PyData) : Bool := cmpP p q != .gt
/-- what the first item of a tuple is: a number, a tuple -/
def fstK : PyData → Option Bool
  | .tuple (.int _ :: _) => some true
  | .tuple (.tuple _ :: _) => some false
  | _ => none
def sortOk (ps : List PyData) : Bool := (ps.all (fun p => fstK p == some true) || ps.all (fun p => fstK p == some false)) && ps.all fun p => p.canLay0 && decide (p.depth ≤ 8) && ps.all fun q => okP p q
def leD (a b : D) : Bool := match py a, py b with
  | some p, some q => leP p q
  | _, _ => true
end En

/-! The engine, part b: operations on data; the small language; what it computes. -/
namespace En
open PySem PySem.Spec PyProof.Rows L2

/-! ### operations on data -/
mutual
def dLe : D → Nat → Bool
  | .non, _ => true
  | .bl _, _ => true
  | .int _, _ => true
  | .str _, _ => true
  | .tup ds, n => match n with
    | 0 => false
    | m + 1 => dLes ds m
  | .lst ds, n => match n with
    | 0 => false
    | m + 1 => dLes ds m
  | .dct _ _, _ => false
  | .fn _, _ => false
  | .box, _ => false
def dLes : List D → Nat → Bool
  | [], _ => true
  | d :: ds, n => dLe d n && dLes ds n
end
mutual
def eqvD : D → D → Bool
  | .non, e => match e with
    | .non => true
    | _ => false
  | .bl a, e => match e with
    | .bl b => a == b
    | .int j => (if a then 1 else 0) == j
    | _ => false
  | .int i, e => match e with
    | .int j => i == j
    | .bl b => i == (if b then 1 else 0)
    | _ => false
  | .str x, e => match e with
    | .str y => x == y
    | _ => false
  | .tup ds, e => match e with
    | .tup es => eqvDs ds es
    | _ => false
  | .lst ds, e => match e with
    | .lst es => eqvDs ds es
    | _ => false
  | .dct _ _, _ => false
  | .fn _, _ => false
  | .box, _ => false
def eqvDs : List D → List D → Bool
  | [], es => match es with
    | [] => true
    | _ :: _ => false
  | d :: ds, es => match es with
    | [] => false
    | e :: es => eqvD d e && eqvDs ds es
end
def eqD (x y : D) : Option Bool := if dLe x 64 && dLe y 64 then some (eqvD x y) else none

def truD : D → Option Bool
  | .non => some false
  | .bl b => some b
  | .int i => some (i != 0)
  | .str x => if x.length ≤ sizeLine then some ((x.length : Int) != 0) else none
  | .tup ds => some (!ds.isEmpty)
  | .lst ds => some (!ds.isEmpty)
  | _ => none
def isIntD : D → Bool
  | .int _ => true
  | _ => false
def isTupD : D → Bool
  | .tup ds => (keysD ds).isSome
  | _ => false
def lenD : D → Option Nat
  | .str x => if x.length ≤ sizeLine then some x.length else none
  | .tup ds => some ds.length
  | .lst ds => some ds.length
  | .dct ks _ => if ks.all isIntD || ks.all isTupD then some ks.length else none
  | _ => none
def seqD : D → Option (List D)
  | .tup ds => some ds
  | .lst ds => some ds
  | _ => none
instance (i j : Int) : Decidable (CMul i j) := by unfold CMul; infer_instance
instance (i j : Int) : Decidable (CPow i j) := by unfold CPow; infer_instance
instance (i j : Int) : Decidable (CDivN i j) := by unfold CDivN; infer_instance
instance (i j : Int) : Decidable (CMulW i j) := by unfold CMulW; infer_instance
instance (i j : Int) : Decidable (CDivW i j) := by unfold CDivW; infer_instance
def binD (op : Operator) (x y : D) : Option D := match op with
  | .Add => match x, y with
    | .int i, .int j => some (.int (i + j))
    | .str a, .str b => if a.length + b.length ≤ sizeLine then some (.str (a ++ b)) else none
    | .tup a, .tup b => if a.length + b.length ≤ sizeLine then some (.tup (a ++ b)) else none
    | .lst a, .lst b => if a.length + b.length ≤ sizeLine then some (.lst (a ++ b)) else none
    | _, _ => none
  | .Sub => match x, y with
    | .int i, .int j => some (.int (i - j))
    | _, _ => none
  | .Mult => match x, y with
    | .int i, .int j => if CMul i j ∨ CMulW i j then some (.int (i * j)) else none
    | .tup a, .int k => if -(2 ^ 63) ≤ k ∧ k < 2 ^ 63 ∧ a.length * k.toNat ≤ sizeLine then some (.tup (List.replicate k.toNat a).flatten) else none
    | .lst a, .int k => if -(2 ^ 63) ≤ k ∧ k < 2 ^ 63 ∧ a.length * k.toNat ≤ sizeLine then some (.lst (List.replicate k.toNat a).flatten) else none
    | _, _ => none
  | .FloorDiv => match x, y with
    | .int i, .int j => if CDivN i j ∨ CDivW i j then some (.int (i.fdiv j)) else none
    | _, _ => none
  | .Mod => match x, y with
    | .int i, .int j => if j ≠ 0 then some (.int (i.fmod j)) else none
    | _, _ => none
  | .Pow => match x, y with
    | .int i, .int j => if CPow i j then some (.int (i ^ j.toNat)) else none
    | _, _ => none
  | .LShift => match x, y with
    | .int i, .int j => if CPow i j then some (.int (i * 2 ^ j.toNat)) else none
    | _, _ => none
  | _ => none
/-- the place of a key: == of flat keys and tuples of such -/
def keyEq : D → D → Bool
  | .int i, .int j => i == j
  | .str x, .str y => x == y
  | .tup ds, .tup es => eqvDs ds es
  | _, _ => false
/-- a key of the kind of the others: a number among numbers, a tuple of numbers and texts among such -/
def sameK (x : D) (ks : List D) : Bool := match x with
  | .int _ => ks.all isIntD
  | .tup ds => (keysD ds).isSome && ks.all isTupD
  | _ => false
def inD (x y : D) : Option Bool := match y with
  | .tup ds => if dLe x 60 && dLes ds 60 then some (ds.any fun d => eqvD d x) else none
  | .lst ds => if dLe x 60 && dLes ds 60 then some (ds.any fun d => eqvD d x) else none
  | .str b => match x with
    | .str a => some (!(Builtin.Str.occurrences b a 0 b.length 1).isEmpty)
    | _ => none
  | .dct ks _ => if sameK x ks then some (ks.any fun k => keyEq k x) else none
  | _ => none
def isD (x y : D) : Option Bool := match x, y with
  | .non, .non => some true
  | .bl a, .bl b => some (a == b)
  | .non, .bl _ => some false
  | _, .non => some false
  | _, _ => none
def tst (op : CmpOp) (o : Ordering) : Bool := match op with
  | .Lt => o == .lt
  | .LtE => o != .gt
  | .Gt => o == .gt
  | .GtE => o != .lt
  | _ => false
/-- tuples of ints (and of such), one before the other -/
def ordD (op : CmpOp) (x y : D) : Option Bool := match py x, py y with
  | some p, some q => if okP p q && p.canLay0 && q.canLay0 && decide (p.depth ≤ 40) then some (tst op (cmpP p q)) else none
  | _, _ => none
def cmpD (op : CmpOp) (x y : D) : Option Bool := match op with
  | .Eq => eqD x y
  | .NotEq => (eqD x y).map (!·)
  | .Lt => match x, y with
    | .int i, .int j => some (decide (i < j))
    | .tup a, .tup c => ordD .Lt (.tup a) (.tup c)
    | _, _ => none
  | .LtE => match x, y with
    | .int i, .int j => some (decide (i ≤ j))
    | .tup a, .tup c => ordD .LtE (.tup a) (.tup c)
    | _, _ => none
  | .Gt => match x, y with
    | .int i, .int j => some (decide (j < i))
    | .tup a, .tup c => ordD .Gt (.tup a) (.tup c)
    | _, _ => none
  | .GtE => match x, y with
    | .int i, .int j => some (decide (j ≤ i))
    | .tup a, .tup c => ordD .GtE (.tup a) (.tup c)
    | _, _ => none
  | .In => inD x y
  | .NotIn => (inD x y).map (!·)
  | .Is => isD x y
  | .IsNot => (isD x y).map (!·)
def lookD (k : D) : List D → List D → Option D
  | k' :: ks, v :: vs => if keyEq k' k then some v else lookD k ks vs
  | _, _ => none
def putD (k v : D) : List D → List D → List D × List D
  | k' :: ks, v' :: vs => if keyEq k' k then (k' :: ks, v :: vs) else ((k' :: (putD k v ks vs).1), v' :: (putD k v ks vs).2)
  | _, _ => ([k], [v])
/-- different flat keys -/
def flatKeys : List D → Bool
  | [] => true
  | k :: ks => (keyD k).isSome && !(ks.any fun k' => keyEq k' k) && flatKeys ks
def idxD (x i : D) : Option D := match x with
  | .tup ds => match i with
    | .int n => atI ds n
    | _ => none
  | .lst ds => match i with
    | .int n => atI ds n
    | _ => none
  | .str z => match i with
    | .int n => if z.length ≤ sizeLine then (atI z.cps.toList n).map fun c => .str ⟨#[c]⟩ else none
    | _ => none
  | .dct ks vs => match i with
    | .str x => lookD (.str x) ks vs
    | .int n => lookD (.int n) ks vs
    | .tup ds => if (keysD ds).isSome then lookD (.tup ds) ks vs else none
    | _ => none
  | _ => none
def cutD {α : Type} (xs : List α) (lo hi : Option Int) : List α := (xs.drop (HT.sIx xs.length 0 lo)).take (HT.sIx xs.length xs.length hi - HT.sIx xs.length 0 lo)
def slcD (x : D) (lo hi : Option Int) : Option D := match x with
  | .tup ds => some (.tup (cutD ds lo hi))
  | .lst ds => some (.lst (cutD ds lo hi))
  | .str z => if z.length ≤ sizeLine ∧ PyData.strOk (cutS z lo hi) = true then some (.str (cutS z lo hi)) else none
  | _ => none
def revD (x : D) : Option D := match x with
  | .tup ds => some (.tup ds.reverse)
  | .lst ds => some (.lst ds.reverse)
  | _ => none
def intsD : List D → Option (List Int)
  | [] => some []
  | .int i :: ds => (intsD ds).map (i :: ·)
  | _ => none
def blsD : List D → Option (List Bool)
  | [] => some []
  | .bl b :: ds => (blsD ds).map (b :: ·)
  | _ => none
/-- isinstance -/
def isiD (x : D) (T : String) : Option Bool := match x with
  | .non => if T == "int" || T == "str" || T == "bool" || T == "tuple" || T == "list" then some false else none
  | .bl _ => if T == "int" || T == "bool" then some true else if T == "str" || T == "tuple" || T == "list" then some false else none
  | .int _ => if T == "int" then some true else if T == "bool" || T == "str" || T == "tuple" || T == "list" then some false else none
  | .str _ => if T == "str" then some true else if T == "bool" || T == "int" || T == "tuple" || T == "list" then some false else none
  | .tup _ => if T == "tuple" then some true else if T == "bool" || T == "int" || T == "str" || T == "list" then some false else none
  | .lst _ => if T == "list" then some true else if T == "bool" || T == "int" || T == "str" || T == "tuple" then some false else none
  | _ => none

/-! ### the small language -/
/-- built-ins that are asked by value -/
inductive BI where
  | len | int | abs | tuple | list | sum | all | any | max1 | min1 | max2 | min2 | str | sorted | isi (T : String)
  deriving DecidableEq
inductive MN where
  | index | index2 | upper | lenset | lrange | stk | repl (y z : Str) | rev0 | dsp1 | skey
  deriving DecidableEq
inductive CG where
  | nm (i : Nat)
  | tp (gs : List CG)
mutual
inductive CE where
  | var (i : Nat)
  | glb (i : Nat)
  | cst (d : D)
  | bin (op : Operator) (a b : CE)
  | neg (a : CE)
  | not (a : CE)
  | bop (op : BoolOp) (es : CEs)
  | cmp (op : CmpOp) (a b : CE)
  | chn (o1 o2 : CmpOp) (a b c : CE)
  | ife (c a b : CE)
  | tup (es : CEs)
  | lst (es : CEs)
  | dct (ks : List D) (vs : CEs)
  | idx (a i : CE)
  | slc (a : CE) (lo hi : CO)
  | rev (a : CE)
  | call (g : Nat) (es : CEs)
  | bi (b : BI) (es : CEs)
  | mth (m : MN) (a : CE) (es : CEs)
  | lc (g : CG) (it : CI) (ifs : CEs) (elt : CE) (own : List Nat)
inductive CO where
  | no | so (e : CE)
inductive CEs where
  | nil | cons (e : CE) (es : CEs)
inductive CI where
  | it (e : CE) | rng (es : CEs) | zip (a b : CE) | enum (a : CE)
end
inductive CS where
  | set (i : Nat) (e : CE)
  | setT (g : CG) (e : CE)
  | par (gs : List CG) (es : CEs)
  | aug (i : Nat) (op : Operator) (e : CE)
  | stIx (i : Nat) (k e : CE)
  | augIx (i : Nat) (op : Operator) (k e : CE)
  | app (i : Nat) (e : CE)
  | ext (i : Nat) (e : CE)
  | setPop (j i : Nat) (e : CO)
  | appPop (j i : Nat) (e : CO)
  | expr (e : CE)
  | ret (e : CE)
  | retN
  | ife (c : CE) (a b : List CS)
  | forr (g : CG) (it : CI) (body : List CS)
  | whl (c : CE) (body : List CS)
  | brk | cnt | pas

/-! ### what it computes -/
structure Box where
  cells : List Int
  regs : List Int
abbrev BS := Option Box
abbrev M (α : Type) := BS → Option (α × BS)
@[inline] def M.ret {α : Type} (a : α) : M α := fun b => some (a, b)
@[inline] def M.bnd {α β : Type} (x : M α) (f : α → M β) : M β := fun b => match x b with
  | none => none
  | some (a, b') => f a b'
@[inline] def M.lift {α : Type} (o : Option α) : M α := fun b => match o with
  | none => none
  | some a => some (a, b)
instance : Monad M where
  pure := M.ret
  bind := M.bnd
/-- a slot: a value, and whether it is a list or dict of our own that nobody else holds -/
abbrev Env := List (Option (D × Bool))
def Env.get (env : Env) (i : Nat) : Option D := match env[i]? with
  | some (some (d, _)) => some d
  | _ => none
def wipeE (env : Env) : List Nat → Env
  | [] => env
  | v :: vs => (wipeE env vs).set v none
mutual
def bindG : CG → D → Env → Option Env
  | .nm i, d, env => if i < env.length then some (env.set i (some (d, false))) else none
  | .tp gs, d, env => match d with
    | .tup ds => bindGs gs ds env
    | .lst ds => bindGs gs ds env
    | _ => none
def bindGs : List CG → List D → Env → Option Env
  | [], ds, env => match ds with
    | [] => some env
    | _ => none
  | g :: gs, ds, env => match ds with
    | [] => none
    | d :: ds => match bindG g d env with
      | none => none
      | some env => bindGs gs ds env
end
def biD (b : BI) (ds : List D) : Option D := match b, ds with
  | .len, [x] => (lenD x).map fun (n : Nat) => .int (n : Int)
  | .int, [.int i] => some (.int i)
  | .int, [.bl k] => some (.int (if k then 1 else 0))
  | .abs, [.int i] => some (.int (if i < 0 then -i else i))
  | .tuple, [.lst ds] => some (.tup ds)
  | .tuple, [.tup ds] => some (.tup ds)
  | .list, [.lst ds] => some (.lst ds)
  | .list, [.tup ds] => some (.lst ds)
  | .sum, [.lst ds] => (intsD ds).map fun ns => .int ns.sum
  | .all, [.lst ds] => (blsD ds).map fun bs => .bl (bs.all id)
  | .any, [.lst ds] => (blsD ds).map fun bs => .bl (bs.any id)
  | .max1, [.lst ds] => match intsD ds with
    | some (n :: ns) => some (.int (ns.foldl max n))
    | _ => none
  | .min1, [.lst ds] => match intsD ds with
    | some (n :: ns) => some (.int (ns.foldl min n))
    | _ => none
  | .max2, [.int i, .int j] => some (.int (if j > i then j else i))
  | .min2, [.int i, .int j] => some (.int (if j < i then j else i))
  | .str, [.int i] => if i.natAbs < 2 ^ 64 then some (.str (toString i : Str)) else none
  | .sorted, [.lst ds] => match intsD ds with
    | some ns => some (.lst ((ns.mergeSort (· ≤ ·)).map .int))
    | none => match pys ds with
      | some ps => if sortOk ps then some (.lst (ds.mergeSort leD)) else none
      | none => none
  | .sorted, [.dct ks _] => if ks.all isTupD then match pys ks with
      | some ps => if sortOk ps then some (.lst (ks.mergeSort leD)) else none
      | none => none
    else none
  | .isi T, [x] => (isiD x T).map fun b => .bl b
  | _, _ => none
/-- how many there are, each told once -/
def distI : List Int → Nat
  | [] => 0
  | n :: ns => if n ∈ ns then distI ns else distI ns + 1
/-- the sum of a tuple of numbers -/
def sumT : D → Option Int
  | .tup ds => (intsD ds).map List.sum
  | _ => none
def mthD (m : MN) (a : D) (ds : List D) : Option D := match m, ds with
  | .repl y z, [] => match a with
    | .str x => if x.length ≤ 1000000 ∧ z.length ≤ 14 ∧ PyData.strOk (Txt.replace x y z) = true then some (.str (Txt.replace x y z)) else none
    | _ => none
  | .rev0, [] => match a with
    | .tup (_ :: xs) => some (.tup xs.reverse)
    | _ => none
  | .upper, [] => match a with
    | .str x => if x.length ≤ 1000000 ∧ PyData.strOk (Txt.upper x) = true then some (.str (Txt.upper x)) else none
    | _ => none
  | .index, [.int k] => match a with
    | .lst xs => match intsD xs with
      | some ns => if k ∈ ns then some (.int (ns.idxOf k : Nat)) else none
      | none => none
    | _ => none
  | .index2, [.int k, .int b] => match a with
    | .lst xs => match intsD xs with
      | some ns => if 0 ≤ b ∧ k ∈ ns.drop b.toNat then some (.int ((b.toNat + (ns.drop b.toNat).idxOf k : Nat) : Int)) else none
      | none => none
    | _ => none
  | .lenset, [] => match a with
    | .lst xs => match intsD xs with
      | some ns => if ns.length ≤ 1000 then some (.int (distI ns : Nat)) else none
      | none => none
    | .tup xs => match intsD xs with
      | some ns => if ns.length ≤ 1000 then some (.int (distI ns : Nat)) else none
      | none => none
    | _ => none
  | .lrange, [] => match a with
    | .int n => if 0 ≤ n ∧ n ≤ 1000000 then some (.lst ((List.range n.toNat).map fun i : Nat => .int (i : Int))) else none
    | _ => none
  | .dsp1, [v] => if isTupD a then match v with
      | .lst _ => none
      | .dct _ _ => none
      | v => some (.dct [a] [v])
    else none
  | .skey, [] => match a with
    | .tup rows => if rows.all (fun r => (sumT r).isSome) then some (.lst (rows.mergeSort fun x y => decide ((sumT y).getD 0 ≤ (sumT x).getD 0))) else none
    | _ => none
  | _, _ => none
def rngD : List D → Option (List D)
  | [.int j] => if -(2 ^ 62) ≤ j ∧ j < 2 ^ 62 then some ((List.range j.toNat).map fun i : Nat => .int (i : Int)) else none
  | [.int i, .int j] => if -(2 ^ 62) ≤ i ∧ i < 2 ^ 62 ∧ -(2 ^ 62) ≤ j ∧ j < 2 ^ 62 then some ((List.range (j - i).toNat).map fun k : Nat => .int (i + (k : Int))) else none
  | _ => none
def zipD (x y : D) : Option (List D) := match seqD x, seqD y with
  | some a, some b => some ((a.zip b).map fun p => .tup [p.1, p.2])
  | _, _ => none
def enumD (x : D) : Option (List D) := match x with
  | .lst a => some ((a.zipIdx).map fun p => .tup [.int p.2, p.1])
  | .tup a => some ((a.zipIdx).map fun p => .tup [.int p.2, p.1])
  | _ => none
/-- the turns of a comprehension -/
def lcLoop (f : D → M (Option D)) : List D → M (List D)
  | [] => pure []
  | d :: ds => do
    let o ← f d
    let r ← lcLoop f ds
    match o with
    | some x => pure (x :: r)
    | none => pure r
/-- what is called, and the module's constants -/
structure Calls where
  fn : Nat → List D → M D
  con : Nat → D
@[inline] def M.tru (x : M D) : M Bool := M.bnd x fun d => M.lift (truD d)
mutual
def ev (cl : Calls) : CE → Env → M D
  | .var i, env => M.lift (env.get i)
  | .glb i, _ => pure (cl.con i)
  | .cst d, _ => pure d
  | .bin op a b, env => do
    let x ← ev cl a env
    let y ← ev cl b env
    M.lift (binD op x y)
  | .neg a, env => do
    let x ← ev cl a env
    match x with
    | .int i => pure (.int (-i))
    | _ => M.lift none
  | .not a, env => do
    let b ← M.tru (ev cl a env)
    pure (.bl (!b))
  | .bop op es, env => evB cl op es env
  | .cmp op a b, env => do
    let x ← ev cl a env
    let y ← ev cl b env
    let c ← M.lift (cmpD op x y)
    pure (.bl c)
  | .chn o1 o2 a b c, env => do
    let x ← ev cl a env
    let y ← ev cl b env
    let k ← M.lift (cmpD o1 x y)
    if k then do
      let z ← ev cl c env
      let k2 ← M.lift (cmpD o2 y z)
      pure (.bl k2)
    else pure (.bl false)
  | .ife c a b, env => do
    let k ← M.tru (ev cl c env)
    if k then ev cl a env else ev cl b env
  | .tup es, env => do
    let ds ← evs cl es env
    if ds.length ≤ sizeLine then pure (.tup ds) else M.lift none
  | .lst es, env => do
    let ds ← evs cl es env
    if ds.length ≤ sizeLine then pure (.lst ds) else M.lift none
  | .dct ks vs, env => do
    let ds ← evs cl vs env
    if ds.length = ks.length ∧ ks.length ≤ 15 ∧ flatKeys ks = true then pure (.dct ks ds) else M.lift none
  | .idx a i, env => do
    let x ← ev cl a env
    let y ← ev cl i env
    M.lift (idxD x y)
  | .slc a lo hi, env => do
    let x ← ev cl a env
    let l ← evO cl lo env
    let h ← evO cl hi env
    M.lift (slcD x l h)
  | .rev a, env => do
    let x ← ev cl a env
    M.lift (revD x)
  | .call g es, env => do
    let ds ← evs cl es env
    cl.fn g ds
  | .bi b es, env => do
    let ds ← evs cl es env
    M.lift (biD b ds)
  | .mth m a es, env => do
    let x ← ev cl a env
    let ds ← evs cl es env
    M.lift (mthD m x ds)
  | .lc g it ifs elt own, env => do
    let ds ← evI cl it env
    let r ← lcLoop (fun d => match bindG g d (wipeE env own) with
      | none => M.lift none
      | some env1 => do
        let ok ← tvs cl ifs env1
        if ok then do
          let x ← ev cl elt env1
          pure (some x)
        else pure none) ds
    if r.length ≤ sizeLine then pure (.lst r) else M.lift none
def evB (cl : Calls) (op : BoolOp) : CEs → Env → M D
  | .nil, _ => M.lift none
  | .cons e .nil, env => ev cl e env
  | .cons e (.cons f fs), env => do
      let x ← ev cl e env
      let k ← M.lift (truD x)
      match op, k with
      | .And, false => pure x
      | .Or, true => pure x
      | _, _ => evB cl op (.cons f fs) env
def evO (cl : Calls) : CO → Env → M (Option Int)
  | .no, _ => pure none
  | .so e, env => do
    let x ← ev cl e env
    match x with
    | .int i => pure (some i)
    | _ => M.lift none
def evs (cl : Calls) : CEs → Env → M (List D)
  | .nil, _ => pure []
  | .cons e es, env => do
    let x ← ev cl e env
    let r ← evs cl es env
    pure (x :: r)
def tvs (cl : Calls) : CEs → Env → M Bool
  | .nil, _ => pure true
  | .cons e .nil, env => M.tru (ev cl e env)
  | .cons _ (.cons _ _), env => M.lift none
def evI (cl : Calls) : CI → Env → M (List D)
  | .it e, env => do
    let x ← ev cl e env
    M.lift (seqD x)
  | .rng es, env => do
    let ds ← evs cl es env
    M.lift (rngD ds)
  | .zip a b, env => do
    let x ← ev cl a env
    let y ← ev cl b env
    M.lift (zipD x y)
  | .enum a, env => do
    let x ← ev cl a env
    M.lift (enumD x)
end
end En

/-! The engine, part c: statements, calls, the box. -/
namespace En
open PySem PySem.Spec PyProof.Rows L2

/-- a new list or dict each time -/
def fr0 : CE → Bool
  | .lst _ => true
  | .lc .. => true
  | .dct .. => true
  | .slc .. => true
  | .rev _ => true
  | .bi .list _ => true
  | .bi .sorted _ => true
  | .mth .lrange _ _ => true
  | .mth .dsp1 _ _ => true
  | .mth .skey _ _ => true
  | .bin .Add _ _ => true
  | .bin .Mult _ _ => true
  | _ => false
def fr : CE → Bool
  | .ife _ a b => fr0 a && fr0 b
  | c => fr0 c
theorem fr_of0 {c : CE} (h : fr0 c = true) : fr c = true := by
  cases c <;> first | exact h | cases h
def isMut : D → Bool
  | .lst _ => true
  | .dct .. => true
  | _ => false
/-! the own lists that come to lie within the value (sk), or may be it (skA) -/
mutual
def sk : CE → List Nat
  | .var _ => []
  | .glb _ => []
  | .cst _ => []
  | .bin _ a b => sk a ++ sk b
  | .neg a => sk a
  | .not a => sk a
  | .bop _ es => skAs es
  | .cmp _ a b => sk a ++ sk b
  | .chn _ _ a b c => sk a ++ (sk b ++ sk c)
  | .ife c a b => sk c ++ (skA a ++ skA b)
  | .tup es => skAs es
  | .lst es => skAs es
  | .dct _ vs => skAs vs
  | .idx a i => sk a ++ sk i
  | .slc a lo hi => sk a ++ (skO lo ++ skO hi)
  | .rev a => sk a
  | .call _ es => skAs es
  | .bi _ es => sks es
  | .mth _ a es => sk a ++ sks es
  | .lc _ it ifs elt _ => skI it ++ (sks ifs ++ skA elt)
def skA : CE → List Nat
  | .var i => [i]
  | .glb _ => []
  | .cst _ => []
  | .bin _ a b => sk a ++ sk b
  | .neg a => sk a
  | .not a => sk a
  | .bop _ es => skAs es
  | .cmp _ a b => sk a ++ sk b
  | .chn _ _ a b c => sk a ++ (sk b ++ sk c)
  | .ife c a b => sk c ++ (skA a ++ skA b)
  | .tup es => skAs es
  | .lst es => skAs es
  | .dct _ vs => skAs vs
  | .idx a i => sk a ++ sk i
  | .slc a lo hi => sk a ++ (skO lo ++ skO hi)
  | .rev a => sk a
  | .call _ es => skAs es
  | .bi _ es => sks es
  | .mth _ a es => sk a ++ sks es
  | .lc _ it ifs elt _ => skI it ++ (sks ifs ++ skA elt)
def skO : CO → List Nat
  | .no => []
  | .so e => sk e
def sks : CEs → List Nat
  | .nil => []
  | .cons e es => sk e ++ sks es
def skAs : CEs → List Nat
  | .nil => []
  | .cons e es => skA e ++ skAs es
def skI : CI → List Nat
  | .it e => sk e
  | .rng es => sks es
  | .zip a b => sk a ++ sk b
  | .enum a => sk a
end
def skIA : CI → List Nat
  | .it e => skA e
  | .rng es => sks es
  | .zip a b => skA a ++ skA b
  | .enum a => skA a
def frzE : List Nat → Env → Env
  | [], env => env
  | i :: is, env => (frzE is env).modify i fun o => o.map fun p => (p.1, false)
inductive Fl where
  | nxt | brk | cnt | ret (d : D)
abbrev SR := Option (Fl × Env × BS)
def bindP : List CG → List D → List Bool → Env → Option Env
  | [], [], [], env => some env
  | .nm i :: gs, d :: ds, f :: fs, env => if i < env.length then bindP gs ds fs (env.set i (some (d, f && isMut d))) else none
  | .tp g :: gs, d :: ds, _ :: fs, env => if isMut d then none else match bindG (.tp g) d env with
    | none => none
    | some env => bindP gs ds fs env
  | _, _, _, _ => none
def frs : CEs → List Bool
  | .nil => []
  | .cons e es => fr e :: frs es
instance (i j : Int) : Decidable (CDiv i j) := by unfold CDiv; infer_instance
def augD (op : Operator) (x y : D) : Option D := match op with
  | .Add => match x, y with
    | .int i, .int j => some (.int (i + j))
    | _, _ => none
  | .Sub => match x, y with
    | .int i, .int j => some (.int (i - j))
    | _, _ => none
  | .Mult => match x, y with
    | .int i, .int j => if CMul i j then some (.int (i * j)) else none
    | _, _ => none
  | .FloorDiv => match x, y with
    | .int i, .int j => if CDiv i j then some (.int (i / j)) else none
    | _, _ => none
  | .Mod => match x, y with
    | .int i, .int j => if 0 < j then some (.int (i % j)) else none
    | _, _ => none
  | _ => none
def forLoop (g : CG) (f : Env → BS → SR) : List D → Env → BS → SR
  | [], env, b => some (.nxt, env, b)
  | d :: ds, env, b => match bindG g d env with
    | none => none
    | some env1 => match f env1 b with
      | none => none
      | some (.nxt, e, b') => forLoop g f ds e b'
      | some (.cnt, e, b') => forLoop g f ds e b'
      | some (.brk, e, b') => some (.nxt, e, b')
      | some (.ret d, e, b') => some (.ret d, e, b')
def whlN (c : Env → BS → Option (Bool × BS)) (z : List Nat) (f : Env → BS → SR) : Nat → Env → BS → SR
  | 0, _, _ => none
  | n + 1, env, b => match c env b with
    | none => none
    | some (false, b') => some (.nxt, frzE z env, b')
    | some (true, b') => match f (frzE z env) b' with
      | none => none
      | some (.nxt, e, b'') => whlN c z f n e b''
      | some (.cnt, e, b'') => whlN c z f n e b''
      | some (.brk, e, b'') => some (.nxt, e, b'')
      | some (.ret d, e, b'') => some (.ret d, e, b'')
/-- the contents of an own list or dict -/
def ownAt (env : Env) (i : Nat) : Option D := match env[i]? with
  | some (some (d, true)) => some d
  | _ => none
def putIx (x k v : D) : Option D := match x with
  | .lst ds => match k with
    | .int n => (ixN ds.length n).map fun j => .lst (ds.set j v)
    | _ => none
  | .dct ks vs => none
  | _ => none
def putX (x k v : D) : Option D := match x with
  | .dct ks vs => if sameK k ks && decide (ks.length < sizeLine) then some (.dct (putD k v ks vs).1 (putD k v ks vs).2) else none
  | x => putIx x k v
def popD (x : D) (k : Option Int) : Option (D × D) := match x with
  | .lst ds => match k with
    | none => (ds[ds.length - 1]?).map fun v => (v, .lst ds.dropLast)
    | some i => if -(2 ^ 63) ≤ i ∧ i < 2 ^ 63 then match seqIndex? i ds.length with
        | some j => (ds[j]?).map fun v => (v, .lst (ds.eraseIdx j))
        | none => none
      else none
  | _ => none
mutual
def xs (cl : Calls) (W : Nat) : CS → Env → BS → SR
  | .set i e, env, b => match ev cl e env b with
    | none => none
    | some (d, b') => if i < env.length then some (.nxt, (frzE (skA e) env).set i (some (d, fr e && isMut d)), b') else none
  | .setT g e, env, b => match ev cl e env b with
    | none => none
    | some (d, b') => match bindG g d (frzE (skA e) env) with
      | none => none
      | some env1 => some (.nxt, env1, b')
  | .par gs es, env, b => match evs cl es env b with
    | none => none
    | some (ds, b') => match bindP gs ds (frs es) (frzE (skAs es) env) with
      | none => none
      | some env1 => some (.nxt, env1, b')
  | .aug i op e, env, b => match env.get i with
    | none => none
    | some x => match ev cl e env b with
      | none => none
      | some (y, b') => match augD op x y with
        | none => none
        | some z => if i < env.length then some (.nxt, (frzE (sk e) env).set i (some (z, false)), b') else none
  | .stIx i k e, env, b => match ev cl e env b with
    | none => none
    | some (v, b1) => match ev cl k env b1 with
      | none => none
      | some (kd, b2) => match ownAt (frzE (skA e ++ sk k) env) i with
        | none => none
        | some x => match putX x kd v with
          | none => none
          | some x' => some (.nxt, (frzE (skA e ++ sk k) env).set i (some (x', true)), b2)
  | .augIx i op k e, env, b => match ev cl k env b with
    | none => none
    | some (kd, b1) => match ownAt (frzE (sk k ++ sk e) env) i with
      | none => none
      | some x => match idxD x kd with
        | none => none
        | some old => match ev cl e env b1 with
          | none => none
          | some (v, b2) => match augD op old v with
            | none => none
            | some z => match putIx x kd z with
              | none => none
              | some x' => some (.nxt, (frzE (sk k ++ sk e) env).set i (some (x', true)), b2)
  | .app i e, env, b => match ev cl e env b with
    | none => none
    | some (v, b1) => match ownAt (frzE (skA e) env) i with
      | some (.lst ds) => if ds.length < sizeLine then some (.nxt, (frzE (skA e) env).set i (some (.lst (ds ++ [v]), true)), b1) else none
      | _ => none
  | .ext i e, env, b => match ev cl e env b with
    | none => none
    | some (v, b1) => match ownAt (frzE (sk e) env) i, seqD v with
      | some (.lst ds), some es => if ds.length + es.length ≤ sizeLine then some (.nxt, (frzE (sk e) env).set i (some (.lst (ds ++ es), true)), b1) else none
      | _, _ => none
  | .setPop j i e, env, b => match evO cl e env b with
    | none => none
    | some (k, b1) => match ownAt (frzE (skO e) env) i with
      | none => none
      | some x => match popD x k with
        | none => none
        | some (v, x') => if j < env.length then some (.nxt, ((frzE (skO e) env).set i (some (x', true))).set j (some (v, false)), b1) else none
  | .appPop j i e, env, b => match evO cl e env b with
    | none => none
    | some (k, b1) => match ownAt (frzE (skO e) env) i with
      | none => none
      | some x => match popD x k with
        | none => none
        | some (v, x') => match ownAt ((frzE (skO e) env).set i (some (x', true))) j with
          | some (.lst ds) => if i ≠ j ∧ ds.length < sizeLine then some (.nxt, (((frzE (skO e) env).set i (some (x', true))).set j (some (.lst (ds ++ [v]), true))), b1) else none
          | _ => none
  | .expr e, env, b => match ev cl e env b with
    | none => none
    | some (_, b') => some (.nxt, frzE (sk e) env, b')
  | .ret e, env, b => match ev cl e env b with
    | none => none
    | some (d, b') => some (.ret d, env, b')
  | .retN, env, b => some (.ret .non, env, b)
  | .ife c t u, env, b => match M.tru (ev cl c env) b with
    | none => none
    | some (k, b') => if k then xss cl W t (frzE (sk c) env) b' else xss cl W u (frzE (sk c) env) b'
  | .forr g it body, env, b => match evI cl it env b with
    | none => none
    | some (ds, b') => forLoop g (fun e b => xss cl W body e b) ds (frzE (skIA it) env) b'
  | .whl c body, env, b => whlN (fun e b => M.tru (ev cl c e) b) (sk c) (fun e b => xss cl W body e b) W env b
  | .brk, env, b => some (.brk, env, b)
  | .cnt, env, b => some (.cnt, env, b)
  | .pas, env, b => some (.nxt, env, b)
def xss (cl : Calls) (W : Nat) : List CS → Env → BS → SR
  | [], env, b => some (.nxt, env, b)
  | s :: ss, env, b => match xs cl W s env b with
    | none => none
    | some (.nxt, e, b') => xss cl W ss e b'
    | some (.brk, e, b') => some (.brk, e, b')
    | some (.cnt, e, b') => some (.cnt, e, b')
    | some (.ret d, e, b') => some (.ret d, e, b')
end
structure FDef where
  np : Nat
  ns : Nat
  body : List CS
def env0 (fd : FDef) (args : List D) : Env := args.map (fun d => some (d, false)) ++ List.replicate (fd.ns - fd.np) none
def callN (T : List FDef) (con : Nat → D) (pr : Nat → Option (List D → M D)) (W : Nat) : Nat → Nat → List D → M D
  | 0 => fun _ _ _ => none
  | n + 1 => fun g args b => match pr g with
    | some f => f args b
    | none => match T[g]? with
      | none => none
      | some fd => if args.length = fd.np then match xss ⟨callN T con pr W n, con⟩ W fd.body (env0 fd args) b with
          | some (.ret d, _, b') => some (d, b')
          | some (.nxt, _, b') => some (.non, b')
          | _ => none
        else none
/-! ### the box -/
def boxNew : List D → M D
  | [.fn ns], b => match b with
    | none => if ns.length ≤ 63 then some (.box, some ⟨ns, [0, 4711 + ns.length]⟩) else none
    | some _ => none
  | _, _ => none
def boxLast (cells : List Int) (cur seed : Int) : Int × Box :=
  ((seed * 48271 + 17) % 2147483629 * 4611686014132420609 + (((seed * 48271 + 17) % 2147483629) * 69621 + 5) % 2147483587 * 2147483647 + ((((seed * 48271 + 17) % 2147483629) * 69621 + 5) % 2147483587 * 40692 + 3) % 2147483563,
    ⟨cells, [cur, ((((seed * 48271 + 17) % 2147483629) * 69621 + 5) % 2147483587 * 40692 + 3) % 2147483563]⟩)
def cellSize (c : Int) : Int := if 0 ≤ c then 2 * c else -2 * c - 1
def boxLoad : List Int → Int → Int → Int × Box
  | [], cur, seed => boxLast [] cur seed
  | c :: cs, cur, seed => if 1000000000000000000 ≤ cellSize c then (cellSize c, ⟨cs, [cur, seed]⟩) else boxLast cs cur ((seed * 69621 + cellSize c * 48271 + 11) % 2147483647)
def boxDraw : List D → M D
  | [.box, .int many], b => match b with
    | some ⟨cells, [cur, seed]⟩ =>
      if 0 < many ∧ many < 1073741824 then
        if cur < many then match boxLoad cells cur seed with
          | (v, ⟨cells', [_, seed']⟩) => some (.int (v % many), some ⟨cells', [v / many, seed']⟩)
          | _ => none
        else some (.int (cur % many), some ⟨cells, [cur / many, seed]⟩)
      else none
    | _ => none
  | _, _ => none
end En

/-! The engine, part d: what an expression's value has to do with its data. -/
namespace En
open PySem PySem.Spec PyProof.Rows L2

def InBox (R : Rx) (a : Addr) : Prop := ∃ b c, R.bx = some (b, c) ∧ (a = b ∨ a = c)
def BoxRel (R : Rx) (H : Hp) (bs : BS) : Prop := match R.bx, bs with
  | none, none => True
  | some (b, c), some x => b ≠ c ∧ H b = some (.lst (.ref c :: x.regs.map .int)) ∧ H c = some (.lst (x.cells.map .int))
  | _, _ => False
theorem BoxRel.lst {R : Rx} {H : Hp} {bs : BS} (h : BoxRel R H bs) {a : Addr} (i : InBox R a) : ∃ xs, H a = some (.lst xs) := by
  obtain ⟨b, c, e, i⟩ := i
  unfold BoxRel at h
  rw [e] at h
  cases bs with
  | none => exact h.elim
  | some x =>
    obtain ⟨_, h1, h2⟩ := h
    rcases i with rfl | rfl
    · exact ⟨_, h1⟩
    · exact ⟨_, h2⟩
theorem BoxRel.same {R : Rx} {H H' : Hp} {bs : BS} (h : BoxRel R H bs) (k : ∀ a, InBox R a → H' a = H a) : BoxRel R H' bs := by
  unfold BoxRel at h ⊢
  cases e : R.bx with
  | none =>
    rw [e] at h
    cases bs with
    | none => trivial
    | some x => exact h.elim
  | some p =>
    obtain ⟨b, c⟩ := p
    rw [e] at h
    cases bs with
    | none => exact h.elim
    | some x =>
      obtain ⟨h0, h1, h2⟩ := h
      exact ⟨h0, by rw [k b ⟨b, c, e, .inl rfl⟩]; exact h1, by rw [k c ⟨b, c, e, .inr rfl⟩]; exact h2⟩
/-- what an evaluation leaves -/
structure EPost (R R' : Rx) (H H' : Hp) (bs' : BS) : Prop where
  le : RxLe R R'
  keep : ∀ a o, H a = some o → ¬InBox R a → H' a = some o
  box : BoxRel R' H' bs'
  bxn : ∀ a, InBox R' a → InBox R a ∨ H a = none
theorem RxLe.inBox {R R' : Rx} (h : RxLe R R') {a : Addr} (i : InBox R a) : InBox R' a := by
  obtain ⟨b, c, e, i⟩ := i
  exact ⟨b, c, h.bx _ e, i⟩
theorem EPost.refl {R : Rx} {H : Hp} {bs : BS} (h : BoxRel R H bs) : EPost R R H H bs := ⟨.refl R, fun _ _ e _ => e, h, fun _ i => .inl i⟩
theorem EPost.notbox {R R' : Rx} {H H' : Hp} {bs' : BS} (e : EPost R R' H H' bs') {a : Addr} {o : HO} (h : H a = some o) (n : ¬InBox R a) : ¬InBox R' a := fun i => by
  rcases e.bxn a i with j | j
  · exact n j
  · rw [h] at j; cases j
theorem EPost.trans {R R1 R2 : Rx} {H H1 H2 : Hp} {b1 b2 : BS} (x : EPost R R1 H H1 b1) (y : EPost R1 R2 H1 H2 b2) : EPost R R2 H H2 b2 where
  le := x.le.trans y.le
  keep := fun a o h n => y.keep a o (x.keep a o h n) (x.notbox h n)
  box := y.box
  bxn := fun a i => by
    rcases y.bxn a i with j | j
    · exact x.bxn a j
    · by_cases n : InBox R a
      · exact .inl n
      · cases e : H a with
        | none => exact .inr rfl
        | some o => rw [x.keep a o e n] at j; cases j
/-- a new object alone -/
theorem EPost.new {R : Rx} {H : Hp} {bs : BS} {p : Addr} {o : HO} (h : BoxRel R H bs) (hp : H p = none) : EPost R R H (upd H p o) bs := by
  have ne : ∀ a u, H a = some u → a ≠ p := fun a u e z => by subst z; rw [hp] at e; cases e
  refine ⟨.refl R, fun a u e _ => by rw [upd_ne (ne a u e)]; exact e, h.same fun a i => ?_, fun _ i => .inl i⟩
  obtain ⟨xs, e⟩ := h.lst i
  rw [upd_ne (ne a _ e)]
def Pn (R' : Rx) (P : Addr → Prop) (H : Hp) : Addr → Prop := fun a => (P a ∨ H a = none) ∧ ¬InBox R' a
def NB (R : Rx) : Addr → Prop := fun a => ¬InBox R a
theorem EPost.ext {R R' : Rx} {H H' : Hp} {bs bs' : BS} {P : Addr → Prop} (x : EPost R R' H H' bs') (b : BoxRel R H bs) (n : ∀ a, P a → ¬InBox R a) : Ext P H H' := fun a o h c => by
  refine x.keep a o h fun i => ?_
  rcases c with c | ⟨ys, rfl⟩ | ⟨ob, u, rfl⟩
  · exact n a c i
  · obtain ⟨zs, e⟩ := b.lst i; rw [h] at e; cases e
  · obtain ⟨zs, e⟩ := b.lst i; rw [h] at e; cases e
theorem Pn.trans {R R1 R2 : Rx} {H H1 H2 : Hp} {b1 b2 : BS} {P : Addr → Prop} (x : EPost R R1 H H1 b1) (y : EPost R1 R2 H1 H2 b2) : ∀ a, Pn R2 (Pn R1 P H) H1 a → Pn R2 P H a := by
  rintro a ⟨h, n⟩
  refine ⟨?_, n⟩
  rcases h with ⟨h, _⟩ | h
  · exact h
  · cases e : H a with
    | none => exact .inr rfl
    | some o =>
      by_cases i : InBox R a
      · exact absurd (y.le.inBox (x.le.inBox i)) n
      · rw [x.keep a o e i] at h; cases h
theorem Pn.of {R R1 : Rx} {H H1 : Hp} {b1 : BS} {P : Addr → Prop} (x : EPost R R1 H H1 b1) (n : ∀ a, P a → ¬InBox R a) {d : D} {v : V} (h : Rep R P H d v) (b : BoxRel R H b0) : Rep R1 (Pn R1 P H) H1 d v := by
  have h1 := Rep.dom d v h
  refine Rep.mono x.le (P := fun a => P a ∧ ∃ o, H a = some o) (P' := Pn R1 P H) (fun a ⟨p, o, e⟩ => ⟨.inl p, x.notbox e (n a p)⟩) (x.ext b fun a q => n a q.1) d v h1
theorem Pn.ofs {R R1 : Rx} {H H1 : Hp} {b1 b0 : BS} {P : Addr → Prop} (x : EPost R R1 H H1 b1) (n : ∀ a, P a → ¬InBox R a) {d : List D} {v : List V} (h : Reps R P H d v) (b : BoxRel R H b0) : Reps R1 (Pn R1 P H) H1 d v := by
  have h1 := Reps.dom d v h
  refine Reps.mono x.le (P := fun a => P a ∧ ∃ o, H a = some o) (P' := Pn R1 P H) (fun a ⟨p, o, e⟩ => ⟨.inl p, x.notbox e (n a p)⟩) (x.ext b fun a q => n a q.1) d v h1
/-- a list or dict of our own: its contents -/
def OwnRep (R : Rx) (P : Addr → Prop) (H : Hp) (d : D) (v : V) : Prop := match d with
  | .lst ds => ∃ a xs, v = .ref a ∧ H a = some (.lst xs) ∧ ¬InBox R a ∧ Reps R P H ds xs
  | .dct ks ds => ∃ a xs, v = .ref a ∧ ((∃ kvs : List (Key × V), H a = some (.dK kvs) ∧ ks.map keyD = kvs.map (fun kv => some kv.1) ∧ xs = kvs.map (·.2)) ∨
      ∃ kvs : List (List Key × V), H a = some (.dT kvs) ∧ ks.map (fun k => match k with | .tup ds => keysD ds | _ => none) = kvs.map (fun kv => some kv.1) ∧ xs = kvs.map (·.2)) ∧ ¬InBox R a ∧ Reps R P H ds xs
  | _ => False
/-- a value that is only looked at: its own list may be anybody's -/
def RepB (R : Rx) (P : Addr → Prop) (H : Hp) (d : D) (v : V) : Prop := match d with
  | .lst ds => ∃ a xs, v = .ref a ∧ LstAt R (NB R) H a xs ∧ Reps R P H ds xs
  | .dct ks ds => ∃ a xs, v = .ref a ∧ DctAt R (NB R) H a ks xs ∧ Reps R P H ds xs
  | d => Rep R P H d v
theorem Rep.b {R : Rx} {P : Addr → Prop} {H : Hp} (n : ∀ a, P a → ¬InBox R a) {d : D} {v : V} (h : Rep R P H d v) : RepB R P H d v := by
  cases d with
  | lst ds =>
    simp only [Rep] at h
    obtain ⟨a, xs, e, h1, h2⟩ := h
    exact ⟨a, xs, e, h1.mono (.refl R) n (.refl P H), h2⟩
  | dct ks ds =>
    simp only [Rep] at h
    obtain ⟨a, xs, e, h1, h2⟩ := h
    exact ⟨a, xs, e, h1.mono (.refl R) n (.refl P H), h2⟩
  | _ => exact h
theorem OwnRep.b {R : Rx} {P : Addr → Prop} {H : Hp} {d : D} {v : V} (h : OwnRep R P H d v) : RepB R P H d v := by
  cases d with
  | lst ds =>
    obtain ⟨a, xs, e, h1, n, h2⟩ := h
    exact ⟨a, xs, e, .inl ⟨n, h1⟩, h2⟩
  | dct ks ds =>
    obtain ⟨a, xs, e, h1 | h1, n, h2⟩ := h
    · exact ⟨a, xs, e, .inl ⟨n, h1⟩, h2⟩
    · exact ⟨a, xs, e, .inr (.inl ⟨n, h1⟩), h2⟩
  | _ => exact (show False from h).elim
theorem OwnRep.full {R : Rx} {P : Addr → Prop} {H : Hp} {d : D} {v : V} (h : OwnRep R P H d v) (p : ∀ a, v = .ref a → P a) : Rep R P H d v := by
  cases d with
  | lst ds =>
    obtain ⟨a, xs, e, h1, n, h2⟩ := h
    simp only [Rep]
    exact ⟨a, xs, e, .inl ⟨p a e, h1⟩, h2⟩
  | dct ks ds =>
    obtain ⟨a, xs, e, h1 | h1, n, h2⟩ := h
    · simp only [Rep]; exact ⟨a, xs, e, .inl ⟨p a e, h1⟩, h2⟩
    · simp only [Rep]; exact ⟨a, xs, e, .inr (.inl ⟨p a e, h1⟩), h2⟩
  | _ => exact (show False from h).elim
theorem RepB.on {R R1 : Rx} {H H1 : Hp} {b0 b1 : BS} {P : Addr → Prop} (x : EPost R R1 H H1 b1) (n : ∀ a, P a → ¬InBox R a) (b : BoxRel R H b0) {d : D} {v : V} (h : RepB R P H d v) : RepB R1 (Pn R1 P H) H1 d v := by
  cases d with
  | lst ds =>
    obtain ⟨a, xs, e, h1, h2⟩ := h
    refine ⟨a, xs, e, ?_, Pn.ofs x n h2 b⟩
    rcases h1 with ⟨p, q⟩ | q
    · exact .inl ⟨x.notbox q p, x.keep _ _ q p⟩
    · exact LstAt.mono x.le (P := fun _ => False) (fun _ z => z.elim) (x.ext b fun _ z => z.elim) (.inr q)
  | dct ks ds =>
    obtain ⟨a, xs, e, h1, h2⟩ := h
    refine ⟨a, xs, e, ?_, Pn.ofs x n h2 b⟩
    rcases h1 with ⟨p, kvs, q, q2⟩ | ⟨p, kvs, q, q2⟩ | q
    · exact .inl ⟨x.notbox q p, kvs, x.keep _ _ q p, q2⟩
    · exact .inr (.inl ⟨x.notbox q p, kvs, x.keep _ _ q p, q2⟩)
    · exact DctAt.mono x.le (P := fun _ => False) (fun _ z => z.elim) (x.ext b fun _ z => z.elim) (.inr (.inr q))
  | non => exact Pn.of x n (show Rep R P H .non v from h) b
  | bl k => exact Pn.of x n (show Rep R P H (.bl k) v from h) b
  | int k => exact Pn.of x n (show Rep R P H (.int k) v from h) b
  | str k => exact Pn.of x n (show Rep R P H (.str k) v from h) b
  | tup k => exact Pn.of x n (show Rep R P H (.tup k) v from h) b
  | fn k => exact Pn.of x n (show Rep R P H (.fn k) v from h) b
  | box => exact Pn.of x n (show Rep R P H .box v from h) b
theorem OwnRep.on {R R1 : Rx} {H H1 : Hp} {b0 b1 : BS} {P : Addr → Prop} (x : EPost R R1 H H1 b1) (n : ∀ a, P a → ¬InBox R a) (b : BoxRel R H b0) {d : D} {v : V} (h : OwnRep R P H d v) : OwnRep R1 (Pn R1 P H) H1 d v := by
  cases d with
  | lst ds =>
    obtain ⟨a, xs, e, h1, nb, h2⟩ := h
    exact ⟨a, xs, e, x.keep _ _ h1 nb, x.notbox h1 nb, Pn.ofs x n h2 b⟩
  | dct ks ds =>
    obtain ⟨a, xs, e, h1, nb, h2⟩ := h
    rcases h1 with ⟨kvs, q, q2⟩ | ⟨kvs, q, q2⟩
    · exact ⟨a, xs, e, .inl ⟨kvs, x.keep _ _ q nb, q2⟩, x.notbox q nb, Pn.ofs x n h2 b⟩
    · exact ⟨a, xs, e, .inr ⟨kvs, x.keep _ _ q nb, q2⟩, x.notbox q nb, Pn.ofs x n h2 b⟩
  | _ => exact (show False from h).elim
/-- the slots of a frame, for an expression: S the own lists that may come to lie within its value -/
structure ERel (R : Rx) (P : Addr → Prop) (S : List Nat) (H : Hp) (σ : L2.St) (env : Env) (bs : BS) : Prop where
  slot : ∀ i d f, env[i]? = some (some (d, f)) → ∃ v, σ[i]? = some (some v) ∧ (f = false → Rep R P H d v) ∧ (f = true → OwnRep R P H d v ∧ (i ∈ S → ∀ a, v = .ref a → P a))
  box : BoxRel R H bs
  nob : ∀ a, P a → ¬InBox R a
  len : env.length ≤ σ.length
theorem ERel.weak {R : Rx} {P : Addr → Prop} {S S' : List Nat} {H : Hp} {σ : L2.St} {env : Env} {bs : BS} (h : ERel R P S H σ env bs) (s : ∀ i, i ∈ S' → i ∈ S) : ERel R P S' H σ env bs :=
  ⟨fun i d f e => let ⟨v, a, b, c⟩ := h.slot i d f e; ⟨v, a, b, fun z => ⟨(c z).1, fun m => (c z).2 (s i m)⟩⟩, h.box, h.nob, h.len⟩
theorem OwnRep.there {R : Rx} {P : Addr → Prop} {H : Hp} {d : D} {a : Addr} (o : OwnRep R P H d (.ref a)) : ∃ u, H a = some u := by
  cases d with
  | lst ds => obtain ⟨a', xs, e1, h1, nb, h2⟩ := o; cases e1; exact ⟨_, h1⟩
  | dct ks ds =>
    obtain ⟨a', xs, e1, h1 | h1, nb, h2⟩ := o
    · obtain ⟨kvs, q, _⟩ := h1; cases e1; exact ⟨_, q⟩
    · obtain ⟨kvs, q, _⟩ := h1; cases e1; exact ⟨_, q⟩
  | _ => exact (show False from o).elim
/-- after an evaluation, what is at P and stood may be called P2 -/
theorem Rep.onP {R R1 : Rx} {H H1 : Hp} {b0 b1 : BS} {P P2 : Addr → Prop} (x : EPost R R1 H H1 b1) (n : ∀ a, P a → ¬InBox R a) (hp : ∀ a o, P a → H a = some o → P2 a) {d : D} {v : V} (h : Rep R P H d v) (b : BoxRel R H b0) : Rep R1 P2 H1 d v :=
  Rep.mono x.le (P := fun a => P a ∧ ∃ o, H a = some o) (fun a ⟨p, o, e⟩ => hp a o p e) (x.ext b fun a q => n a q.1) d v (Rep.dom d v h)
theorem Reps.onP {R R1 : Rx} {H H1 : Hp} {b0 b1 : BS} {P P2 : Addr → Prop} (x : EPost R R1 H H1 b1) (n : ∀ a, P a → ¬InBox R a) (hp : ∀ a o, P a → H a = some o → P2 a) {d : List D} {v : List V} (h : Reps R P H d v) (b : BoxRel R H b0) : Reps R1 P2 H1 d v :=
  Reps.mono x.le (P := fun a => P a ∧ ∃ o, H a = some o) (fun a ⟨p, o, e⟩ => hp a o p e) (x.ext b fun a q => n a q.1) d v (Reps.dom d v h)
theorem OwnRep.onP {R R1 : Rx} {H H1 : Hp} {b0 b1 : BS} {P P2 : Addr → Prop} (x : EPost R R1 H H1 b1) (n : ∀ a, P a → ¬InBox R a) (hp : ∀ a o, P a → H a = some o → P2 a) (b : BoxRel R H b0) {d : D} {v : V} (h : OwnRep R P H d v) : OwnRep R1 P2 H1 d v := by
  cases d with
  | lst ds =>
    obtain ⟨a, xs, e, h1, nb, h2⟩ := h
    exact ⟨a, xs, e, x.keep _ _ h1 nb, x.notbox h1 nb, Reps.onP x n hp h2 b⟩
  | dct ks ds =>
    obtain ⟨a, xs, e, h1, nb, h2⟩ := h
    rcases h1 with ⟨kvs, q, q2⟩ | ⟨kvs, q, q2⟩
    · exact ⟨a, xs, e, .inl ⟨kvs, x.keep _ _ q nb, q2⟩, x.notbox q nb, Reps.onP x n hp h2 b⟩
    · exact ⟨a, xs, e, .inr ⟨kvs, x.keep _ _ q nb, q2⟩, x.notbox q nb, Reps.onP x n hp h2 b⟩
  | _ => exact (show False from h).elim
theorem ERel.onP {R R1 : Rx} {P P2 : Addr → Prop} {S : List Nat} {H H1 : Hp} {σ : L2.St} {env : Env} {bs b1 : BS} (h : ERel R P S H σ env bs) (x : EPost R R1 H H1 b1) (hp : ∀ a o, P a → H a = some o → P2 a) (nb : ∀ a, P2 a → ¬InBox R1 a) : ERel R1 P2 S H1 σ env b1 := by
  refine ⟨fun i d f e => ?_, x.box, nb, h.len⟩
  obtain ⟨v, a, b, c⟩ := h.slot i d f e
  refine ⟨v, a, fun z => Rep.onP x h.nob hp (b z) h.box, fun z => ⟨(c z).1.onP x h.nob hp h.box, fun m q w => ?_⟩⟩
  subst w
  obtain ⟨u, hu⟩ := (c z).1.there
  exact hp q u ((c z).2 m q rfl) hu
theorem ERel.on {R R1 : Rx} {P : Addr → Prop} {S : List Nat} {H H1 : Hp} {σ : L2.St} {env : Env} {bs b1 : BS} (h : ERel R P S H σ env bs) (x : EPost R R1 H H1 b1) : ERel R1 (Pn R1 P H) S H1 σ env b1 :=
  h.onP x (fun a o p e => ⟨.inl p, x.notbox e (h.nob a p)⟩) fun a p => p.2
/-- back to the state ahead of both -/
theorem Rep.back {R R1 R2 : Rx} {H H1 H2 : Hp} {b1 b2 : BS} {P : Addr → Prop} (x : EPost R R1 H H1 b1) (y : EPost R1 R2 H1 H2 b2) {d : D} {v : V} (h : Rep R2 (Pn R2 (Pn R1 P H) H1) H2 d v) : Rep R2 (Pn R2 P H) H2 d v :=
  Rep.mono (.refl R2) (Pn.trans x y) (.refl _ _) d v h
theorem Reps.back {R R1 R2 : Rx} {H H1 H2 : Hp} {b1 b2 : BS} {P : Addr → Prop} (x : EPost R R1 H H1 b1) (y : EPost R1 R2 H1 H2 b2) {d : List D} {v : List V} (h : Reps R2 (Pn R2 (Pn R1 P H) H1) H2 d v) : Reps R2 (Pn R2 P H) H2 d v :=
  Reps.mono (.refl R2) (Pn.trans x y) (.refl _ _) d v h
theorem RepB.mono {R : Rx} {H : Hp} {P P' : Addr → Prop} (p : ∀ a, P a → P' a) {d : D} {v : V} (h : RepB R P H d v) : RepB R P' H d v := by
  cases d with
  | lst ds =>
    obtain ⟨a, xs, e, h1, h2⟩ := h
    exact ⟨a, xs, e, h1, Reps.mono (.refl R) p (.refl _ _) _ _ h2⟩
  | dct ks ds =>
    obtain ⟨a, xs, e, h1, h2⟩ := h
    exact ⟨a, xs, e, h1, Reps.mono (.refl R) p (.refl _ _) _ _ h2⟩
  | non => exact Rep.mono (H := H) (.refl R) p (.refl _ _) D.non v h
  | bl k => exact Rep.mono (H := H) (H' := H) (.refl R) p (.refl _ _) (D.bl k) v h
  | int k => exact Rep.mono (H := H) (H' := H) (.refl R) p (.refl _ _) (D.int k) v h
  | str k => exact Rep.mono (H := H) (H' := H) (.refl R) p (.refl _ _) (D.str k) v h
  | tup k => exact Rep.mono (H := H) (H' := H) (.refl R) p (.refl _ _) (D.tup k) v h
  | fn k => exact Rep.mono (H := H) (H' := H) (.refl R) p (.refl _ _) (D.fn k) v h
  | box => exact Rep.mono (H := H) (H' := H) (.refl R) p (.refl _ _) D.box v h
theorem RepB.back {R R1 R2 : Rx} {H H1 H2 : Hp} {b1 b2 : BS} {P : Addr → Prop} (x : EPost R R1 H H1 b1) (y : EPost R1 R2 H1 H2 b2) {d : D} {v : V} (h : RepB R2 (Pn R2 (Pn R1 P H) H1) H2 d v) : RepB R2 (Pn R2 P H) H2 d v :=
  h.mono (Pn.trans x y)
theorem Reps.atNew {R : Rx} {P : Addr → Prop} {H : Hp} {p : Addr} {o : HO} {ds : List D} {vs : List V} (hp : H p = none) (h : Reps R P H ds vs) : Reps R (fun b => P b ∧ b ≠ p) (upd H p o) ds vs := by
  have e : Ext (fun a => P a ∧ ∃ o, H a = some o) H (upd H p o) := fun a u q _ => by
    rw [upd_ne (fun z => by rw [z, hp] at q; cases q)]; exact q
  exact Reps.mono (.refl _) (P' := fun b => P b ∧ b ≠ p) (fun a ⟨q, u, qu⟩ => ⟨q, fun z => by rw [z, hp] at qu; cases qu⟩) e _ _ (Reps.dom _ _ h)
theorem fresh_of {R R' : Rx} {H H1 : Hp} {b1 : BS} {p : Addr} (e1 : EPost R R' H H1 b1) (hp : H1 p = none) : H p = none ∧ ¬InBox R' p := by
  have nb : ¬InBox R' p := fun i => by obtain ⟨xs, z⟩ := e1.box.lst i; rw [hp] at z; cases z
  refine ⟨?_, nb⟩
  cases q : H p with
  | none => rfl
  | some o => have z := e1.keep p o q fun i => nb (e1.le.inBox i); rw [hp] at z; cases z
/-- a new list -/
theorem OwnRep.newL {R : Rx} {P : Addr → Prop} {H : Hp} {p : Addr} {ds : List D} {vs : List V} (hp : H p = none) (nb : ¬InBox R p) (h : Reps R P H ds vs) : OwnRep R (fun b => P b ∧ b ≠ p) (upd H p (.lst vs)) (.lst ds) (.ref p) :=
  ⟨p, vs, rfl, upd_same, nb, h.atNew hp⟩
end En

/-! The engine, part e: the readings of expressions; the first rules. -/
namespace En
open PySem PySem.Spec PyProof.Rows L2

theorem PE.imp {X : Cx} {e : Expr} {t t' : TE} (h : PE X e t) (f : ∀ σ H Q, t' σ H Q → t σ H Q) : PE X e t' := ⟨fun pins s σ H Q I q => h.run pins s σ H Q I (f σ H Q q)⟩
theorem PT.imp {X : Cx} {e : Expr} {t t' : TT} (h : PT X e t) (f : ∀ σ H Q, t' σ H Q → t σ H Q) : PT X e t' := ⟨fun pins s σ H Q I q => h.run pins s σ H Q I (f σ H Q q)⟩
theorem PW.imp {X : Cx} {e : Expr} {t t' : TT} (h : PW X e t) (f : ∀ σ H Q, t' σ H Q → t σ H Q) : PW X e t' := ⟨fun whole pins s σ H Q I q => h.run whole pins s σ H Q I (f σ H Q q)⟩
theorem PA.imp {X : Cx} {e : List Expr} {t t' : TA} (h : PA X e t) (f : ∀ σ H Q, t' σ H Q → t σ H Q) : PA X e t' := ⟨fun pos pins s σ H Q I q => h.run pos pins s σ H Q I (f σ H Q q)⟩

theorem bnd_some {α β : Type} {x : M α} {f : α → M β} {b : BS} {r : β × BS} : M.bnd x f b = some r ↔ ∃ a b', x b = some (a, b') ∧ f a b' = some r := by
  unfold M.bnd
  cases x b with
  | none => simp
  | some p =>
    obtain ⟨a, b'⟩ := p
    constructor
    · intro h; exact ⟨a, b', rfl, h⟩
    · rintro ⟨a', b'', h, h'⟩
      cases h; exact h'
theorem lift_some {α : Type} {o : Option α} {b : BS} {a : α} {b' : BS} : M.lift o b = some (a, b') ↔ o = some a ∧ b' = b := by
  unfold M.lift
  cases o with
  | none => simp
  | some c => simp [eq_comm]
theorem ret_some {α : Type} {a a' : α} {b b' : BS} : M.ret a b = some (a', b') ↔ a' = a ∧ b' = b := by
  unfold M.ret
  simp [eq_comm]
theorem bind_def {α β : Type} (x : M α) (f : α → M β) : x >>= f = M.bnd x f := rfl
theorem pure_def {α : Type} (a : α) : (pure a : M α) = M.ret a := rfl

abbrev RX (X : Cx) (bx : Option (Addr × Addr)) : Rx := ⟨X.K, X.w, X.mg, bx⟩

/-- what an expression asks: its data by ev; what it gives: that data, new lists and those at P alone within it -/
def tF (X : Cx) (S : List Nat) (f : Env → M D) : TE := fun σ H Q => ∃ bx P env bs d bs', ERel (RX X bx) P S H σ env bs ∧ f env bs = some (d, bs') ∧
  ∀ v H' bx', EPost (RX X bx) (RX X bx') H H' bs' → Rep (RX X bx') (Pn (RX X bx') P H) H' d v → Q v H'
def tL (X : Cx) (S : List Nat) (f : Env → M D) : TE := fun σ H Q => ∃ bx P env bs d bs', ERel (RX X bx) P S H σ env bs ∧ f env bs = some (d, bs') ∧
  ∀ v H' bx', EPost (RX X bx) (RX X bx') H H' bs' → RepB (RX X bx') (Pn (RX X bx') P H) H' d v → Q v H'
def tTr (X : Cx) (S : List Nat) (f : Env → M Bool) : TT := fun σ H Q => ∃ bx P env bs d bs', ERel (RX X bx) P S H σ env bs ∧ f env bs = some (d, bs') ∧
  ∀ H' bx', EPost (RX X bx) (RX X bx') H H' bs' → Q d H'
/-- several: full, looked at -/
def tFs (X : Cx) (S : List Nat) (f : Env → M (List D)) : TA := fun σ H Q => ∃ bx P env bs d bs', ERel (RX X bx) P S H σ env bs ∧ f env bs = some (d, bs') ∧
  ∀ v H' bx', EPost (RX X bx) (RX X bx') H H' bs' → Reps (RX X bx') (Pn (RX X bx') P H) H' d v → Q v H'
def RepBs (R : Rx) (P : Addr → Prop) (H : Hp) : List D → List V → Prop
  | [], vs => vs = []
  | d :: ds, vs => ∃ x r, vs = x :: r ∧ RepB R P H d x ∧ RepBs R P H ds r
theorem RepBs.on {R R1 : Rx} {H H1 : Hp} {b0 b1 : BS} {P : Addr → Prop} (x : EPost R R1 H H1 b1) (n : ∀ a, P a → ¬InBox R a) (b : BoxRel R H b0) : ∀ {d : List D} {v : List V}, RepBs R P H d v → RepBs R1 (Pn R1 P H) H1 d v
  | [], _, h => h
  | d :: ds, _, h => by
    obtain ⟨y, r, e, h1, h2⟩ := h
    exact ⟨y, r, e, h1.on x n b, RepBs.on x n b h2⟩
theorem RepBs.mono {R : Rx} {H : Hp} {P P' : Addr → Prop} (p : ∀ a, P a → P' a) : ∀ {d : List D} {v : List V}, RepBs R P H d v → RepBs R P' H d v
  | [], _, h => h
  | d :: ds, _, h => by
    obtain ⟨y, r, e, h1, h2⟩ := h
    exact ⟨y, r, e, h1.mono p, RepBs.mono p h2⟩
def tLs (X : Cx) (S : List Nat) (f : Env → M (List D)) : TA := fun σ H Q => ∃ bx P env bs d bs', ERel (RX X bx) P S H σ env bs ∧ f env bs = some (d, bs') ∧
  ∀ v H' bx', EPost (RX X bx) (RX X bx') H H' bs' → RepBs (RX X bx') (Pn (RX X bx') P H) H' d v → Q v H'
/-- a list or dict that stood nowhere, or another value -/
def NewRep (R : Rx) (P : Addr → Prop) (H0 H : Hp) (d : D) (v : V) : Prop :=
  (isMut d = true → ∃ a, v = .ref a ∧ H0 a = none ∧ OwnRep R (fun b => P b ∧ b ≠ a) H d v) ∧ (isMut d = false → Rep R P H d v)
theorem OwnRep.mono {R : Rx} {P P' : Addr → Prop} {H : Hp} (p : ∀ a, P a → P' a) {d : D} {v : V} (h : OwnRep R P H d v) : OwnRep R P' H d v := by
  cases d with
  | lst ds =>
    obtain ⟨a, xs, e, h1, n, h2⟩ := h
    exact ⟨a, xs, e, h1, n, Reps.mono (.refl R) p (.refl _ _) _ _ h2⟩
  | dct ks ds =>
    obtain ⟨a, xs, e, h1, n, h2⟩ := h
    exact ⟨a, xs, e, h1, n, Reps.mono (.refl R) p (.refl _ _) _ _ h2⟩
  | _ => exact (show False from h).elim
theorem OwnRep.nb {R : Rx} {P : Addr → Prop} {H : Hp} {d : D} {a : Addr} (h : OwnRep R P H d (.ref a)) : ¬InBox R a := by
  cases d with
  | lst ds => obtain ⟨b, xs, e, h1, n, h2⟩ := h; cases e; exact n
  | dct ks ds => obtain ⟨b, xs, e, h1, n, h2⟩ := h; cases e; exact n
  | _ => exact (show False from h).elim
theorem NewRep.rep {R : Rx} {P : Addr → Prop} {H0 H : Hp} {d : D} {v : V} (h : NewRep R (Pn R P H0) H0 H d v) : Rep R (Pn R P H0) H d v := by
  cases e : isMut d with
  | false => exact h.2 e
  | true =>
    obtain ⟨a, rfl, h1, h2⟩ := h.1 e
    exact (h2.mono fun b p => p.1).full fun b q => by cases q; exact ⟨.inr h1, h2.nb⟩
theorem NewRep.of {R : Rx} {P : Addr → Prop} {H0 H : Hp} {d : D} {v : V} (m : isMut d = false) (h : Rep R P H d v) : NewRep R P H0 H d v := ⟨fun e => (by rw [m] at e; cases e), fun _ => h⟩
theorem NewRep.back {R R1 R2 : Rx} {H H1 H2 : Hp} {b1 b2 : BS} {P : Addr → Prop} (x : EPost R R1 H H1 b1) (y : EPost R1 R2 H1 H2 b2) {d : D} {v : V} (h : NewRep R2 (Pn R2 (Pn R1 P H) H1) H1 H2 d v) : NewRep R2 (Pn R2 P H) H H2 d v := by
  refine ⟨fun m => ?_, fun m => (h.2 m).back x y⟩
  obtain ⟨a, e, n, o⟩ := h.1 m
  subst e
  refine ⟨a, rfl, ?_, o.mono fun b p => ⟨Pn.trans x y b p.1, p.2⟩⟩
  cases q : H a with
  | none => rfl
  | some u =>
    by_cases i : InBox R a
    · exact absurd (y.le.inBox (x.le.inBox i)) o.nb
    · rw [x.keep a u q i] at n; cases n
def tN (X : Cx) (S : List Nat) (f : Env → M D) : TE := fun σ H Q => ∃ bx P env bs d bs', ERel (RX X bx) P S H σ env bs ∧ f env bs = some (d, bs') ∧
  ∀ v H' bx', EPost (RX X bx) (RX X bx') H H' bs' → NewRep (RX X bx') (Pn (RX X bx') P H) H H' d v → Q v H'
/-- an expression is sound: as a value, looked at, as a test; as a new list -/
structure SE (X : Cx) (cl : Calls) (c : CE) (e : Expr) : Prop where
  full : PE X e (tF X (skA c) (ev cl c))
  lk : PE X e (tL X (sk c) (ev cl c))
  ts : PT X e (tTr X (sk c) fun env => M.tru (ev cl c env))
  nw : fr c = true → PE X e (tN X (skA c) (ev cl c))
theorem tF_N {X : Cx} {S : List Nat} {f : Env → M D} {σ : L2.St} {H : Hp} {Q : VK} (h : tF X S f σ H Q) : tN X S f σ H Q := by
  obtain ⟨bx, P, env, bs, d, bs', h1, h2, h3⟩ := h
  exact ⟨bx, P, env, bs, d, bs', h1, h2, fun v H' bx' e r => h3 v H' bx' e r.rep⟩
theorem tL_F {X : Cx} {S : List Nat} {f : Env → M D} {σ : L2.St} {H : Hp} {Q : VK} (h : tL X S f σ H Q) : tF X S f σ H Q := by
  obtain ⟨bx, P, env, bs, d, bs', h1, h2, h3⟩ := h
  exact ⟨bx, P, env, bs, d, bs', h1, h2, fun v H' bx' e r => h3 v H' bx' e (r.b fun a p => p.2)⟩
/-- truth of a value that is looked at -/
theorem RepB.tru {X : Cx} {bx : Option (Addr × Addr)} {P : Addr → Prop} {H : Hp} {d : D} {v : V} {k : Bool} (h : RepB (RX X bx) P H d v) (t : truD d = some k) : TruV X.K v H k := by
  cases d with
  | non => simp only [RepB, Rep] at h; subst h; simp only [truD, Option.some.injEq] at t; subst t; rfl
  | bl b => simp only [RepB, Rep] at h; subst h; simp only [truD, Option.some.injEq] at t; subst t; rfl
  | int i => simp only [RepB, Rep] at h; subst h; simp only [truD, Option.some.injEq] at t; subst t; rfl
  | str x =>
    simp only [RepB, Rep] at h
    obtain ⟨h, _⟩ := h
    subst h
    by_cases z : x.length ≤ sizeLine
    · simp [truD, z] at t; exact ⟨z, t.symm⟩
    · simp [truD, z] at t
  | tup ds =>
    simp only [RepB, Rep] at h
    obtain ⟨a, xs, rfl, h1, h2⟩ := h
    simp [truD] at t
    refine .inr (.inl ⟨xs, .inl (.inl h1), ?_⟩)
    have := h2.length
    cases ds <;> cases xs <;> simp_all
  | lst ds =>
    obtain ⟨a, xs, rfl, h1, h2⟩ := h
    simp [truD] at t
    refine .inl ⟨xs, h1.sq, ?_⟩
    have := h2.length
    cases ds <;> cases xs <;> simp_all
  | _ => simp [truD] at t
section
variable {X : Cx} {cl : Calls}
/-- from the looked-at rule to the test -/
theorem ts_of {c : CE} {e : Expr} (h : PE X e (tL X (sk c) (ev cl c))) (he : ∀ whole, isTrue e X.env whole = (do let v ← whole; standAt e.pos; holding [v] (truthy v))) : PT X e (tTr X (sk c) fun env => M.tru (ev cl c env)) := by
  refine PT.imp (pt_truth h he) fun σ H Q q => ?_
  obtain ⟨bx, P, env, bs, d, bs', h1, h2, h3⟩ := q
  obtain ⟨x, b1, h4, h50⟩ := bnd_some.mp h2
  obtain ⟨h5, rfl⟩ := lift_some.mp h50
  exact ⟨bx, P, env, bs, x, _, h1, h4, fun v H' bx' ep r => ⟨d, r.tru h5, h3 H' bx' ep⟩⟩
/-- where the value is new or of P anyway -/
theorem SE.of {c : CE} {e : Expr} (hs : skA c = sk c) (hf : fr c = false) (h : PE X e (tF X (sk c) (ev cl c))) (he : ∀ whole, isTrue e X.env whole = (do let v ← whole; standAt e.pos; holding [v] (truthy v))) : SE X cl c e := by
  have l : PE X e (tL X (sk c) (ev cl c)) := PE.imp h fun _ _ _ => tL_F
  exact ⟨by rw [hs]; exact h, l, ts_of l he, fun z => by rw [hf] at z; cases z⟩
theorem SE.ofN {c : CE} {e : Expr} (hs : skA c = sk c) (h : PE X e (tN X (sk c) (ev cl c))) (he : ∀ whole, isTrue e X.env whole = (do let v ← whole; standAt e.pos; holding [v] (truthy v))) : SE X cl c e := by
  have f : PE X e (tF X (sk c) (ev cl c)) := PE.imp h fun _ _ _ => tF_N
  have l : PE X e (tL X (sk c) (ev cl c)) := PE.imp f fun _ _ _ => tL_F
  exact ⟨by rw [hs]; exact f, l, ts_of l he, fun _ => by rw [hs]; exact h⟩
/-- two operands, looked at -/
theorem lk2 {a b : CE} {S : List Nat} {bx : Option (Addr × Addr)} {P : Addr → Prop} {H : Hp} {σ : L2.St} {env : Env} {bs b1 b2 : BS} {dx dy : D} {G : V → V → Hp → Prop} (h : ERel (RX X bx) P S H σ env bs)
    (ha : ∀ i, i ∈ sk a → i ∈ S) (hb : ∀ i, i ∈ sk b → i ∈ S) (ea : ev cl a env bs = some (dx, b1)) (eb : ev cl b env b1 = some (dy, b2))
    (k : ∀ x y H2 bx2, EPost (RX X bx) (RX X bx2) H H2 b2 → RepB (RX X bx2) (Pn (RX X bx2) P H) H2 dx x → RepB (RX X bx2) (Pn (RX X bx2) P H) H2 dy y → G x y H2) :
    tL X (sk a) (ev cl a) σ H fun x H1 => tL X (sk b) (ev cl b) σ H1 fun y H2 => G x y H2 := by
  refine ⟨bx, P, env, bs, dx, b1, h.weak ha, ea, fun v1 H1 bx1 e1 r1 => ?_⟩
  refine ⟨bx1, _, env, b1, dy, b2, (h.weak hb).on e1, eb, fun v2 H2 bx2 e2 r2 => ?_⟩
  exact k v1 v2 H2 bx2 (e1.trans e2) ((r1.on e2 (fun a p => p.2) e1.box).back e1 e2) (r2.back e1 e2)
/-- an operation on two values that are looked at -/
def Op2 (X : Cx) (f : Value → Value → Sem Value) (g : D → D → Option D) : Prop :=
  OpR X f (fun x y H Q => ∃ bx P bs a b d, BoxRel (RX X bx) H bs ∧ (∀ a, P a → ¬InBox (RX X bx) a) ∧ RepB (RX X bx) P H a x ∧ RepB (RX X bx) P H b y ∧ g a b = some d ∧
    ∀ v H', EPost (RX X bx) (RX X bx) H H' bs → NewRep (RX X bx) (Pn (RX X bx) P H) H H' d v → Q v H')
theorem se_bin {op : Operator} {a b : CE} {l r : Expr} {pos : Pos} (ho : Op2 X (binaryOp op) (binD op)) (ha : SE X cl a l) (hb : SE X cl b r) : SE X cl (.bin op a b) (.BinOp l op r pos) := by
  refine SE.ofN (by simp only [skA, sk]) (PE.imp (pe_op ho ha.lk hb.lk) fun σ H Q q => ?_) (fun _ => rfl)
  obtain ⟨bx, P, env, bs, d, bs', h1, h2, h3⟩ := q
  simp only [ev, bind_def, bnd_some, lift_some] at h2
  obtain ⟨x, b1, ex, y, b2, ey, eg, rfl⟩ := h2
  refine lk2 h1 (fun i m => by simp only [sk, List.mem_append]; exact .inl m) (fun i m => by simp only [sk, List.mem_append]; exact .inr m) ex ey fun v1 v2 H2 bx2 e2 r1 r2 => ?_
  exact ⟨bx2, _, _, x, y, d, e2.box, fun a p => p.2, r1, r2, eg, fun v H3 e3 r3 => h3 v H3 bx2 (e2.trans e3) (r3.back e2 e3)⟩
theorem se_cmp {op : CmpOp} {a b : CE} {l r : Expr} {pos : Pos} (ho : Op2 X (compareOp op) (fun x y => (cmpD op x y).map D.bl)) (hm : behindInMarks op r = false) (ha : SE X cl a l) (hb : SE X cl b r) : SE X cl (.cmp op a b) (.Compare l [op] [r] pos) := by
  have key : ∀ σ H (Q : VK), tF X (sk (.cmp op a b)) (ev cl (.cmp op a b)) σ H Q → (tOp (fun x y H Q => ∃ bx P bs a b d, BoxRel (RX X bx) H bs ∧ (∀ a, P a → ¬InBox (RX X bx) a) ∧ RepB (RX X bx) P H a x ∧ RepB (RX X bx) P H b y ∧ (cmpD op a b).map D.bl = some d ∧
      ∀ v H', EPost (RX X bx) (RX X bx) H H' bs → NewRep (RX X bx) (Pn (RX X bx) P H) H H' d v → Q v H') (tL X (sk a) (ev cl a)) (tL X (sk b) (ev cl b))) σ H Q := fun σ H Q q => by
    obtain ⟨bx, P, env, bs, d, bs', h1, h2, h3⟩ := q
    simp only [ev, bind_def, pure_def, bnd_some, lift_some, ret_some] at h2
    obtain ⟨x, b1, ex, y, b2, ey, c, b3, ⟨eg, rfl⟩, rfl, rfl⟩ := h2
    refine lk2 h1 (fun i m => by simp only [sk, List.mem_append]; exact .inl m) (fun i m => by simp only [sk, List.mem_append]; exact .inr m) ex ey fun v1 v2 H2 bx2 e2 r1 r2 => ?_
    exact ⟨bx2, _, _, x, y, .bl c, e2.box, fun a p => p.2, r1, r2, by rw [eg]; rfl, fun v H3 e3 r3 => h3 v H3 bx2 (e2.trans e3) ((r3.back e2 e3).2 rfl)⟩
  have l : PE X (.Compare l [op] [r] pos) (tF X (sk (.cmp op a b)) (ev cl (.cmp op a b))) := PE.imp (pe_cmpR ho ha.lk hb.lk hm) key
  refine ⟨by rw [show skA (.cmp op a b) = sk (.cmp op a b) by simp only [skA, sk]]; exact l, PE.imp l fun _ _ _ => tL_F, ?ts, fun z => by cases z⟩
  refine (PT.imp (pt_cmpR ho ha.lk hb.lk hm) fun σ H Q q => ?_)
  obtain ⟨bx, P, env, bs, k, bs', h1, h2, h3⟩ := q
  obtain ⟨x, b1, h4, h50⟩ := bnd_some.mp h2
  obtain ⟨h5, rfl⟩ := lift_some.mp h50
  refine key σ H _ ⟨bx, P, env, bs, x, _, h1, h4, fun v H' bx' ep r => ?_⟩
  simp only [ev, bind_def, pure_def, bnd_some, lift_some, ret_some] at h4
  obtain ⟨_, _, _, _, _, _, c, _, _, rfl, _⟩ := h4
  simp [truD] at h5
  simp only [Rep] at r
  subst r h5
  exact ⟨c, rfl, h3 H' bx' ep⟩
/-- names, constants -/
theorem se_var {i : Nat} {x : Str} {pos : Pos} (hN : X.N[i]? = some x) (hv : Vis X.env.scope x) (hd : (x == ("__debug__" : Str)) = false) (hcd : (x == ("__classdict__" : Str)) = false) : SE X cl (.var i) (.Name x pos) := by
  have l : PE X (.Name x pos) (tL X (sk (.var i)) (ev cl (.var i))) := PE.imp (pe_var hN hv hd hcd) fun σ H Q q => by
    obtain ⟨bx, P, env, bs, d, bs', h1, h2, h3⟩ := q
    simp only [ev, lift_some] at h2
    obtain ⟨h2, rfl⟩ := h2
    unfold Env.get at h2
    split at h2
    · rename_i d' f e
      cases h2
      obtain ⟨v, e1, e2, e3⟩ := h1.slot i d f e
      refine ⟨v, e1, h3 v H bx (.refl h1.box) ?_⟩
      cases f with
      | false => exact (e2 rfl).b h1.nob |>.mono fun a p => ⟨.inl p, h1.nob a p⟩
      | true => exact (e3 rfl).1.b.mono fun a p => ⟨.inl p, h1.nob a p⟩
    · cases h2
  refine ⟨PE.imp (pe_var hN hv hd hcd) fun σ H Q q => ?_, l, ts_of l fun _ => rfl, fun z => by cases z⟩
  obtain ⟨bx, P, env, bs, d, bs', h1, h2, h3⟩ := q
  simp only [ev, lift_some] at h2
  obtain ⟨h2, rfl⟩ := h2
  unfold Env.get at h2
  split at h2
  · rename_i d' f e
    cases h2
    obtain ⟨v, e1, e2, e3⟩ := h1.slot i d f e
    refine ⟨v, e1, h3 v H bx (.refl h1.box) ?_⟩
    refine Rep.mono (P := P) (.refl _) (fun a p => ⟨.inl p, h1.nob a p⟩) (.refl _ _) d v ?_
    cases f with
    | false => exact e2 rfl
    | true => exact (e3 rfl).1.full ((e3 rfl).2 (by simp [skA]))
  · cases h2
theorem se_const {c : CE} {e : Expr} {d : D} {v : V} (he : PE X e (tC v)) (hr : ∀ bx P H, Rep (RX X bx) P H d v) (hc : ∀ env b, ev cl c env b = some (d, b)) (hs : skA c = sk c) (hf : fr c = false) (ht : ∀ whole, isTrue e X.env whole = (do let v ← whole; standAt e.pos; holding [v] (truthy v))) : SE X cl c e := by
  refine SE.of hs hf (PE.imp he fun σ H Q q => ?_) ht
  obtain ⟨bx, P, env, bs, d', bs', h1, h2, h3⟩ := q
  rw [hc] at h2
  cases h2
  exact h3 v H bx (.refl h1.box) (hr _ _ _)
theorem se_int {i : Int} {j pos} : SE X cl (.cst (.int i)) (.Constant (.int i) j pos) := se_const (d := .int i) (v := .int i) pe_int (fun _ _ _ => by simp only [Rep]) (fun _ _ => by simp only [ev]; rfl) rfl rfl (fun _ => rfl)
theorem se_bl {i : Bool} {j pos} : SE X cl (.cst (.bl i)) (.Constant (.bool i) j pos) := se_const (d := .bl i) (v := .bl i) pe_bl (fun _ _ _ => by simp only [Rep]) (fun _ _ => by simp only [ev]; rfl) rfl rfl (fun _ => rfl)
theorem se_non {j pos} : SE X cl (.cst .non) (.Constant .none j pos) := se_const (d := .non) (v := .non) pe_non (fun _ _ _ => by simp only [Rep]) (fun _ _ => by simp only [ev]; rfl) rfl rfl (fun _ => rfl)
theorem se_str {x : Str} {j pos} (hx : PyData.strOk x = true) : SE X cl (.cst (.str x)) (.Constant (.str x) j pos) := se_const (d := .str x) (v := .str x) pe_str (fun _ _ _ => by simp only [Rep]; exact ⟨trivial, hx⟩) (fun _ _ => by simp only [ev]; rfl) rfl rfl (fun _ => rfl)
/-- a module's constant: told by the text alone -/
structure ConOk (X : Cx) (x : Str) (d : D) : Prop where
  at_ : ∃ u v, X.mg x = some u ∧ RelV v u ∧ ∀ bx P H, Rep (RX X bx) P H d v
theorem se_glb {i : Nat} {x : Str} {pos : Pos} (hg : Gl X x) (hd : (x == ("__debug__" : Str)) = false) (hc : ConOk X x (cl.con i)) : SE X cl (.glb i) (.Name x pos) := by
  obtain ⟨u, v, hm, r, hr⟩ := hc
  exact se_const (d := cl.con i) (pe_glob hg hm r hd) hr (fun _ _ => by simp only [ev]; rfl) rfl rfl (fun _ => rfl)
theorem se_neg {a : CE} {e : Expr} {pos : Pos} (ha : SE X cl a e) : SE X cl (.neg a) (.UnaryOp .USub e pos) := by
  refine SE.of (by simp only [skA, sk]) rfl (PE.imp (pe_un un_neg ha.lk) fun σ H Q q => ?_) (fun _ => rfl)
  obtain ⟨bx, P, env, bs, d, bs', h1, h2, h3⟩ := q
  simp only [ev, bind_def, bnd_some] at h2
  obtain ⟨x, b1, ex, eg⟩ := h2
  refine ⟨bx, P, env, bs, x, b1, h1.weak (by simp only [sk]; exact fun _ m => m), ex, fun v H' bx' ep r => ?_⟩
  cases x with
  | int i =>
    simp only [pure_def, ret_some] at eg
    obtain ⟨rfl, rfl⟩ := eg
    simp only [RepB, Rep] at r
    subst r
    exact ⟨i, rfl, h3 _ _ _ ep (by simp only [Rep])⟩
  | _ => simp [lift_some] at eg
theorem se_not {a : CE} {e : Expr} {pos : Pos} (ha : SE X cl a e) : SE X cl (.not a) (.UnaryOp .Not e pos) := by
  have l : PE X (.UnaryOp .Not e pos) (tF X (sk (.not a)) (ev cl (.not a))) := PE.imp (pe_notT ha.lk) fun σ H Q q => by
    obtain ⟨bx, P, env, bs, d, bs', h1, h2, h3⟩ := q
    simp only [ev, bind_def, pure_def, bnd_some, ret_some] at h2
    obtain ⟨k, b1, ex, rfl, rfl⟩ := h2
    obtain ⟨x, b2, h4, h50⟩ := bnd_some.mp ex
    obtain ⟨h5, rfl⟩ := lift_some.mp h50
    exact ⟨bx, P, env, bs, x, _, h1.weak (by simp only [sk]; exact fun _ m => m), h4, fun v H' bx' ep r => ⟨k, r.tru h5, h3 _ _ _ ep (by simp only [Rep])⟩⟩
  refine ⟨by rw [show skA (.not a) = sk (.not a) by simp only [skA, sk]]; exact l, PE.imp l fun _ _ _ => tL_F, PT.imp (pt_not ha.ts) fun σ H Q q => ?_, fun z => by cases z⟩
  obtain ⟨bx, P, env, bs, k, bs', h1, h2, h3⟩ := q
  obtain ⟨x, b1, h4, h50⟩ := bnd_some.mp h2
  obtain ⟨h5, rfl⟩ := lift_some.mp h50
  simp only [ev, bind_def, pure_def, bnd_some, ret_some] at h4
  obtain ⟨k', b2, ex, rfl, rfl⟩ := h4
  simp only [truD, Option.some.injEq] at h5
  subst h5
  exact ⟨bx, P, env, bs, _, _, h1.weak (by simp only [sk]; exact fun _ m => m), ex, fun H' bx' ep => h3 _ _ ep⟩
end
end En

/-! The engine, part f: and, or, chains, displays, subscripts, calls. -/
namespace En
open PySem PySem.Spec PyProof.Rows L2

theorem sk_skA : ∀ (c : CE) (i : Nat), i ∈ sk c → i ∈ skA c := fun c i h => by
  cases c with
  | var j => simp [sk] at h
  | _ => simp only [sk, skA] at h ⊢; exact h
theorem sks_skAs : ∀ (c : CEs) (i : Nat), i ∈ sks c → i ∈ skAs c
  | .nil, i, h => by simp [sks] at h
  | .cons e es, i, h => by
    simp only [sks, skAs, List.mem_append] at h ⊢
    rcases h with h | h
    · exact .inl (sk_skA e i h)
    · exact .inr (sks_skAs es i h)
theorem tru_some {x : M D} {b b' : BS} {k : Bool} : M.tru x b = some (k, b') ↔ ∃ d, x b = some (d, b') ∧ truD d = some k := by
  unfold M.tru
  rw [bnd_some]
  constructor
  · rintro ⟨a, b1, h1, h2⟩
    obtain ⟨h3, rfl⟩ := lift_some.mp h2
    exact ⟨a, h1, h3⟩
  · rintro ⟨d, h1, h2⟩
    exact ⟨d, b', h1, lift_some.mpr ⟨h2, rfl⟩⟩
section
variable {X : Cx} {cl : Calls}
/-! ### and, or -/
def goOn (op : BoolOp) (k : Bool) : Bool := match op with
  | .And => k
  | .Or => !k
structure SB (X : Cx) (cl : Calls) (op : BoolOp) (cs : CEs) (es : List Expr) : Prop where
  val : ∀ pos, PE X (.BoolOp op es pos) (tF X (skAs cs) (evB cl op cs))
  wh : ∀ pos, PW X (.BoolOp op es pos) (tTr X (skAs cs) fun env => M.tru (evB cl op cs env))
theorem sb_one {op : BoolOp} {c : CE} {e : Expr} (h : SE X cl c e) : SB X cl op (.cons c .nil) [e] := by
  have hS : ∀ i, i ∈ skA c → i ∈ skAs (.cons c .nil) := fun i m => by simp only [skAs, List.mem_append]; exact .inl m
  refine ⟨fun pos => PE.imp (pe_one h.full) fun σ H Q q => ?_, fun pos => ?_⟩
  · obtain ⟨bx, P, env, bs, d, bs', h1, h2, h3⟩ := q
    simp only [evB] at h2
    exact ⟨bx, P, env, bs, d, bs', h1.weak hS, h2, h3⟩
  · have t : PW X (.BoolOp op [e] pos) (tTr X (sk c) fun env => M.tru (ev cl c env)) := by
      cases op with
      | And => exact pw_and1 h.ts
      | Or => exact pw_or1 h.ts
    refine PW.imp t fun σ H Q q => ?_
    obtain ⟨bx, P, env, bs, d, bs', h1, h2, h3⟩ := q
    simp only [evB] at h2
    exact ⟨bx, P, env, bs, d, bs', h1.weak fun i m => hS i (sk_skA c i m), h2, h3⟩
theorem sb_cons {op : BoolOp} {c c2 : CE} {cs : CEs} {e e2 : Expr} {es : List Expr} (h : SE X cl c e) (t : SB X cl op (.cons c2 cs) (e2 :: es)) : SB X cl op (.cons c (.cons c2 cs)) (e :: e2 :: es) := by
  have hS : ∀ i, i ∈ skA c → i ∈ skAs (.cons c (.cons c2 cs)) := fun i m => by simp only [skAs, List.mem_append]; exact .inl m
  have hT : ∀ i, i ∈ skAs (.cons c2 cs) → i ∈ skAs (.cons c (.cons c2 cs)) := fun i m => by rw [skAs, List.mem_append]; exact .inr m
  -- the value
  have val : ∀ pos, PE X (.BoolOp op (e :: e2 :: es) pos) (tF X (skAs (.cons c (.cons c2 cs))) (evB cl op (.cons c (.cons c2 cs)))) := fun pos => by
    have go : ∀ σ H (Q : VK), tF X (skAs (.cons c (.cons c2 cs))) (evB cl op (.cons c (.cons c2 cs))) σ H Q → tF X (skA c) (ev cl c) σ H fun x H1 => ∃ k, TruV X.K x H1 k ∧
        if goOn op k = true then tF X (skAs (.cons c2 cs)) (evB cl op (.cons c2 cs)) σ H1 Q else Q x H1 := fun σ H Q q => by
      obtain ⟨bx, P, env, bs, d, bs', h1, h2, h3⟩ := q
      simp only [evB, bind_def, bnd_some, lift_some] at h2
      obtain ⟨x, b1, ex, k, _, ⟨ek, rfl⟩, h2⟩ := h2
      refine ⟨bx, P, env, bs, x, _, h1.weak hS, ex, fun v H1 bx1 ep r => ⟨k, (r.b fun a p => p.2).tru ek, ?_⟩⟩
      cases op with
      | And =>
        cases k with
        | true =>
          rw [if_pos (by rfl)]
          exact ⟨bx1, _, env, _, d, bs', (h1.weak hT).on ep, h2, fun v2 H2 bx2 e2 r2 => h3 v2 H2 bx2 (ep.trans e2) (r2.back ep e2)⟩
        | false =>
          rw [if_neg (by simp [goOn])]
          simp only [pure_def, ret_some] at h2
          obtain ⟨rfl, rfl⟩ := h2
          exact h3 v H1 bx1 ep r
      | Or =>
        cases k with
        | false =>
          rw [if_pos (by rfl)]
          exact ⟨bx1, _, env, _, d, bs', (h1.weak hT).on ep, h2, fun v2 H2 bx2 e2 r2 => h3 v2 H2 bx2 (ep.trans e2) (r2.back ep e2)⟩
        | true =>
          rw [if_neg (by simp [goOn])]
          simp only [pure_def, ret_some] at h2
          obtain ⟨rfl, rfl⟩ := h2
          exact h3 v H1 bx1 ep r
    cases op with
    | And =>
      refine PE.imp (pe_andT h.full (t.val pos)) fun σ H Q q => ?_
      obtain ⟨bx, P, env, bs, d, bs', h1, h2, h3⟩ := go σ H Q q
      exact ⟨bx, P, env, bs, d, bs', h1, h2, h3⟩
    | Or =>
      refine PE.imp (pe_orT h.full (t.val pos)) fun σ H Q q => ?_
      obtain ⟨bx, P, env, bs, d, bs', h1, h2, h3⟩ := go σ H Q q
      refine ⟨bx, P, env, bs, d, bs', h1, h2, fun v H' bx' ep r => ?_⟩
      obtain ⟨k, tk, q2⟩ := h3 v H' bx' ep r
      refine ⟨k, tk, ?_⟩
      cases k <;> exact q2
  refine ⟨val, fun pos => ?_⟩
  have go : ∀ σ H (Q : Bool → Hp → Prop), tTr X (skAs (.cons c (.cons c2 cs))) (fun env => M.tru (evB cl op (.cons c (.cons c2 cs)) env)) σ H Q → tTr X (sk c) (fun env => M.tru (ev cl c env)) σ H fun k H1 =>
      if goOn op k = true then tTr X (skAs (.cons c2 cs)) (fun env => M.tru (evB cl op (.cons c2 cs) env)) σ H1 Q else Q k H1 := fun σ H Q q => by
    obtain ⟨bx, P, env, bs, d, bs', h1, h2, h3⟩ := q
    obtain ⟨dd, h2, ht⟩ := tru_some.mp h2
    simp only [evB, bind_def, bnd_some, lift_some] at h2
    obtain ⟨x, b1, ex, k, _, ⟨ek, rfl⟩, h2⟩ := h2
    refine ⟨bx, P, env, bs, k, _, h1.weak fun i m => hS i (sk_skA c i m), tru_some.mpr ⟨x, ex, ek⟩, fun H1 bx1 ep => ?_⟩
    cases op with
    | And =>
      cases k with
      | true =>
        rw [if_pos (by rfl)]
        exact ⟨bx1, _, env, _, d, bs', (h1.weak hT).on ep, tru_some.mpr ⟨dd, h2, ht⟩, fun H2 bx2 e2 => h3 H2 bx2 (ep.trans e2)⟩
      | false =>
        rw [if_neg (by simp [goOn])]
        simp only [pure_def, ret_some] at h2
        obtain ⟨rfl, rfl⟩ := h2
        rw [ht] at ek
        cases ek
        exact h3 H1 bx1 ep
    | Or =>
      cases k with
      | false =>
        rw [if_pos (by rfl)]
        exact ⟨bx1, _, env, _, d, bs', (h1.weak hT).on ep, tru_some.mpr ⟨dd, h2, ht⟩, fun H2 bx2 e2 => h3 H2 bx2 (ep.trans e2)⟩
      | true =>
        rw [if_neg (by simp [goOn])]
        simp only [pure_def, ret_some] at h2
        obtain ⟨rfl, rfl⟩ := h2
        rw [ht] at ek
        cases ek
        exact h3 H1 bx1 ep
  cases op with
  | And =>
    refine PW.imp (pw_and h.ts (t.wh pos)) fun σ H Q q => ?_
    obtain ⟨bx, P, env, bs, d, bs', h1, h2, h3⟩ := go σ H Q q
    refine ⟨bx, P, env, bs, d, bs', h1, h2, fun H' bx' ep => ?_⟩
    have q2 := h3 H' bx' ep
    cases d <;> exact q2
  | Or =>
    refine PW.imp (pw_or h.ts (t.wh pos)) fun σ H Q q => ?_
    obtain ⟨bx, P, env, bs, d, bs', h1, h2, h3⟩ := go σ H Q q
    refine ⟨bx, P, env, bs, d, bs', h1, h2, fun H' bx' ep => ?_⟩
    have q2 := h3 H' bx' ep
    cases d <;> exact q2
theorem se_bop {op : BoolOp} {cs : CEs} {es : List Expr} {pos : Pos} (h : SB X cl op cs es) : SE X cl (.bop op cs) (.BoolOp op es pos) := by
  have e1 : skA (.bop op cs) = skAs cs := by simp only [skA]
  have e2 : sk (.bop op cs) = skAs cs := by simp only [sk]
  have e3 : ev cl (.bop op cs) = evB cl op cs := by funext env; simp only [ev]
  refine ⟨by rw [e1, e3]; exact h.val pos, by rw [e2, e3]; exact PE.imp (h.val pos) fun _ _ _ => tL_F, ?_, fun z => by cases z⟩
  have := (h.wh pos).pt
  rw [e2]
  refine PT.imp this fun σ H Q q => ?_
  simp only [e3] at q
  exact q
/-! ### a if c else b -/
theorem se_ife {c a b : CE} {ec ea eb : Expr} {pos : Pos} (hc : SE X cl c ec) (ha : SE X cl a ea) (hb : SE X cl b eb) : SE X cl (.ife c a b) (.IfExp ec ea eb pos) := by
  have l : PE X (.IfExp ec ea eb pos) (tF X (sk (.ife c a b)) (ev cl (.ife c a b))) := PE.imp (pe_ifExp hc.ts ha.full hb.full) fun σ H Q q => by
    obtain ⟨bx, P, env, bs, d, bs', h1, h2, h3⟩ := q
    simp only [ev, bind_def, bnd_some] at h2
    obtain ⟨k, b1, ek, h2⟩ := h2
    simp only [sk] at h1
    refine ⟨bx, P, env, bs, k, b1, h1.weak fun i m => List.mem_append_left _ m, ek, fun H1 bx1 ep => ?_⟩
    cases k with
    | true =>
      rw [if_pos rfl] at h2 ⊢
      exact ⟨bx1, _, env, _, d, bs', (h1.weak fun i m => List.mem_append_right _ (List.mem_append_left _ m)).on ep, h2, fun v2 H2 bx2 e2 r2 => h3 v2 H2 bx2 (ep.trans e2) (r2.back ep e2)⟩
    | false =>
      rw [if_neg Bool.false_ne_true] at h2 ⊢
      exact ⟨bx1, _, env, _, d, bs', (h1.weak fun i m => List.mem_append_right _ (List.mem_append_right _ m)).on ep, h2, fun v2 H2 bx2 e2 r2 => h3 v2 H2 bx2 (ep.trans e2) (r2.back ep e2)⟩
  refine ⟨by rw [show skA (.ife c a b) = sk (.ife c a b) by simp only [skA, sk]]; exact l, PE.imp l fun _ _ _ => tL_F, ⟨fun pins s σ H Q I q => ?_⟩, fun z => ?_⟩
  rotate_left
  · have z' : fr0 a = true ∧ fr0 b = true := by simpa only [fr, Bool.and_eq_true] using z
    rw [show skA (.ife c a b) = sk (.ife c a b) by simp only [skA, sk]]
    refine PE.imp (pe_ifExp hc.ts (ha.nw (fr_of0 z'.1)) (hb.nw (fr_of0 z'.2))) fun σ H Q q => ?_
    obtain ⟨bx, P, env, bs, d, bs', h1, h2, h3⟩ := q
    simp only [ev, bind_def, bnd_some] at h2
    obtain ⟨k, b1, ek, h2⟩ := h2
    simp only [sk] at h1
    refine ⟨bx, P, env, bs, k, b1, h1.weak fun i m => List.mem_append_left _ m, ek, fun H1 bx1 ep => ?_⟩
    cases k with
    | true =>
      rw [if_pos rfl] at h2 ⊢
      exact ⟨bx1, _, env, _, d, bs', (h1.weak fun i m => List.mem_append_right _ (List.mem_append_left _ m)).on ep, h2, fun v2 H2 bx2 e2 r2 => h3 v2 H2 bx2 (ep.trans e2) (r2.back ep e2)⟩
    | false =>
      rw [if_neg Bool.false_ne_true] at h2 ⊢
      exact ⟨bx1, _, env, _, d, bs', (h1.weak fun i m => List.mem_append_right _ (List.mem_append_right _ m)).on ep, h2, fun v2 H2 bx2 e2 r2 => h3 v2 H2 bx2 (ep.trans e2) (r2.back ep e2)⟩
  obtain ⟨bx, P, env, bs, k0, bs', h1, h20, h3⟩ := q
  obtain ⟨d, h2, ht⟩ := tru_some.mp h20
  simp only [ev, bind_def, bnd_some] at h2
  obtain ⟨k, b1, ek, h2⟩ := h2
  simp only [sk] at h1
  refine isTrue_IfExp (thn (hc.ts.run pins s σ H (fun c H1 => c = k ∧ ∃ bx1, EPost (RX X bx) (RX X bx1) H H1 b1) I ⟨bx, P, env, bs, k, b1, h1.weak fun i m => List.mem_append_left _ m, ek, fun H1 bx1 ep => ⟨rfl, bx1, ep⟩⟩) fun c s1 hq => ?_)
  obtain ⟨H1, I1, rfl, bx1, ep⟩ := hq
  cases c with
  | true =>
    rw [if_pos rfl] at h2 ⊢
    exact ha.ts.run pins s1 σ H1 Q I1 ⟨bx1, _, env, _, k0, bs', (h1.weak fun i m => List.mem_append_right _ (List.mem_append_left _ (sk_skA a i m))).on ep, tru_some.mpr ⟨d, h2, ht⟩, fun H2 bx2 e2 => h3 H2 bx2 (ep.trans e2)⟩
  | false =>
    rw [if_neg Bool.false_ne_true] at h2 ⊢
    exact hb.ts.run pins s1 σ H1 Q I1 ⟨bx1, _, env, _, k0, bs', (h1.weak fun i m => List.mem_append_right _ (List.mem_append_right _ (sk_skA b i m))).on ep, tru_some.mpr ⟨d, h2, ht⟩, fun H2 bx2 e2 => h3 H2 bx2 (ep.trans e2)⟩
/-! ### a op1 b op2 c -/
theorem se_chn {o1 o2 : CmpOp} {a b c : CE} {l m r : Expr} {pos : Pos} (h1 : Op2 X (compareOp o1) (fun x y => (cmpD o1 x y).map D.bl)) (h2 : Op2 X (compareOp o2) (fun x y => (cmpD o2 x y).map D.bl))
    (hm : lastMarks [o1, o2] [m, r] = false) (ha : SE X cl a l) (hb : SE X cl b m) (hc : SE X cl c r) : SE X cl (.chn o1 o2 a b c) (.Compare l [o1, o2] [m, r] pos) := by
  have go : ∀ σ H (Q : VK), tF X (sk (.chn o1 o2 a b c)) (ev cl (.chn o1 o2 a b c)) σ H Q → tChain
      (fun x y H Q => ∃ bx P bs a b d, BoxRel (RX X bx) H bs ∧ (∀ a, P a → ¬InBox (RX X bx) a) ∧ RepB (RX X bx) P H a x ∧ RepB (RX X bx) P H b y ∧ (cmpD o1 a b).map D.bl = some d ∧
      ∀ v H', EPost (RX X bx) (RX X bx) H H' bs → NewRep (RX X bx) (Pn (RX X bx) P H) H H' d v → Q v H')
      (fun x y H Q => ∃ bx P bs a b d, BoxRel (RX X bx) H bs ∧ (∀ a, P a → ¬InBox (RX X bx) a) ∧ RepB (RX X bx) P H a x ∧ RepB (RX X bx) P H b y ∧ (cmpD o2 a b).map D.bl = some d ∧
      ∀ v H', EPost (RX X bx) (RX X bx) H H' bs → NewRep (RX X bx) (Pn (RX X bx) P H) H H' d v → Q v H')
      (tL X (sk a) (ev cl a)) (tL X (sk b) (ev cl b)) (tL X (sk c) (ev cl c)) σ H Q := fun σ H Q q => by
    obtain ⟨bx, P, env, bs, d, bs', g1, g2, g3⟩ := q
    simp only [ev, bind_def, pure_def, bnd_some, lift_some] at g2
    obtain ⟨x, b1, ex, y, b2, ey, k, _, ⟨ek, rfl⟩, g2⟩ := g2
    simp only [sk] at g1
    refine lk2 g1 (fun i m => List.mem_append_left _ m) (fun i m => List.mem_append_right _ (List.mem_append_left _ m)) ex ey fun v1 v2 H2 bx2 e2 r1 r2 => ?_
    refine ⟨bx2, _, _, x, y, .bl k, e2.box, fun a p => p.2, r1, r2, by rw [ek]; rfl, fun v H3 e3 r3 => ?_⟩
    have r3 := r3.2 rfl
    simp only [Rep] at r3
    refine ⟨k, r3, ?_⟩
    cases k with
    | false =>
      rw [if_neg Bool.false_ne_true]
      rw [if_neg Bool.false_ne_true, ret_some] at g2
      obtain ⟨rfl, rfl⟩ := g2
      exact g3 _ _ _ (e2.trans e3) (by simp only [Rep])
    | true =>
      rw [if_pos rfl]
      rw [if_pos rfl, bnd_some] at g2
      obtain ⟨z, b3, ez, g2⟩ := g2
      simp only [bnd_some, lift_some, ret_some] at g2
      obtain ⟨k2, _, ⟨ek2, rfl⟩, rfl, rfl⟩ := g2
      refine ⟨bx2, _, env, _, z, _, (g1.weak fun i m => List.mem_append_right _ (List.mem_append_right _ m)).on (e2.trans e3), ez, fun v4 H4 bx4 e4 r4 => ?_⟩
      exact ⟨bx4, _, _, y, z, .bl k2, e4.box, fun a p => p.2, ((r2.on e3 (fun a p => p.2) e2.box).back e2 e3 |>.on e4 (fun a p => p.2) e3.box), r4, by rw [ek2]; rfl, fun v5 H5 e5 r5 =>
        g3 v5 H5 bx4 (((e2.trans e3).trans e4).trans e5) (by have r5 := r5.2 rfl; simp only [Rep] at r5 ⊢; exact r5)⟩
  have l : PE X (.Compare l [o1, o2] [m, r] pos) (tF X (sk (.chn o1 o2 a b c)) (ev cl (.chn o1 o2 a b c))) := PE.imp (pe_chain h1 h2 ha.lk hb.lk hc.lk hm) go
  refine ⟨by rw [show skA (.chn o1 o2 a b c) = sk (.chn o1 o2 a b c) by simp only [skA, sk]]; exact l, PE.imp l fun _ _ _ => tL_F, PT.imp (pt_chain h1 h2 ha.lk hb.lk hc.lk hm) fun σ H Q q => ?_, fun z => by cases z⟩
  obtain ⟨bx, P, env, bs, k, bs', g1, g2, g3⟩ := q
  obtain ⟨d, g4, g5⟩ := tru_some.mp g2
  refine go σ H _ ⟨bx, P, env, bs, d, _, g1, g4, fun v H' bx' ep r => ?_⟩
  have hd : ∃ k, d = .bl k := by
    simp only [ev, bind_def, pure_def, bnd_some, lift_some] at g4
    obtain ⟨x, b1, ex, y, b2, ey, k, _, ⟨ek, rfl⟩, g4⟩ := g4
    cases k with
    | false => rw [if_neg Bool.false_ne_true, ret_some] at g4; exact ⟨_, g4.1⟩
    | true =>
      rw [if_pos rfl] at g4
      simp only [bnd_some, lift_some, ret_some] at g4
      obtain ⟨z, b3, ez, k2, _, _, rfl, _⟩ := g4
      exact ⟨_, rfl⟩
  obtain ⟨k', rfl⟩ := hd
  simp only [truD, Option.some.injEq] at g5
  simp only [Rep] at r
  subst r g5
  exact ⟨k', rfl, g3 H' bx' ep⟩
/-! ### argument lists -/
def ns : Expr → Bool
  | .Starred .. => false
  | _ => true
theorem star_ns {e : Expr} {es : List Expr} {env : PySem.Env} (h : ns e = true) : starEach (e :: es) env = (false, eval e env) :: starEach es env := by
  cases e <;> first | rfl | (exact absurd (show false = true from h) Bool.false_ne_true)
theorem back_ns {pos : Pos} {es : List Expr} {env : PySem.Env} (h : es.all ns = true) : (backTo pos (starEach es env)).any (·.1) = false := by
  induction es with
  | nil => rfl
  | cons e es ih =>
    simp only [List.all_cons, Bool.and_eq_true] at h
    rw [star_ns h.1]
    exact ih h.2
structure SA (X : Cx) (cl : Calls) (cs : CEs) (es : List Expr) : Prop where
  full : PA X es (tFs X (skAs cs) (evs cl cs))
  lk : PA X es (tLs X (sks cs) (evs cl cs))
theorem sa_nil : SA X cl .nil [] := by
  refine ⟨PA.imp pa_nil fun σ H Q q => ?_, PA.imp pa_nil fun σ H Q q => ?_⟩
  · obtain ⟨bx, P, env, bs, d, bs', g1, g2, g3⟩ := q
    simp only [evs, pure_def, ret_some] at g2
    obtain ⟨rfl, rfl⟩ := g2
    exact g3 [] H bx (.refl g1.box) .nil
  · obtain ⟨bx, P, env, bs, d, bs', g1, g2, g3⟩ := q
    simp only [evs, pure_def, ret_some] at g2
    obtain ⟨rfl, rfl⟩ := g2
    exact g3 [] H bx (.refl g1.box) rfl
theorem sa_cons {c : CE} {cs : CEs} {e : Expr} {es : List Expr} (hn : ns e = true) (h : SE X cl c e) (t : SA X cl cs es) : SA X cl (.cons c cs) (e :: es) := by
  refine ⟨PA.imp (pa_cons h.full t.full (star_ns hn)) fun σ H Q q => ?_, PA.imp (pa_cons h.lk t.lk (star_ns hn)) fun σ H Q q => ?_⟩
  · obtain ⟨bx, P, env, bs, d, bs', g1, g2, g3⟩ := q
    simp only [evs, bind_def, pure_def, bnd_some, ret_some] at g2
    obtain ⟨x, b1, ex, r, b2, er, rfl, rfl⟩ := g2
    simp only [skAs] at g1
    refine ⟨bx, P, env, bs, x, b1, g1.weak fun i m => List.mem_append_left _ m, ex, fun v1 H1 bx1 e1 r1 => ?_⟩
    refine ⟨bx1, _, env, b1, r, _, (g1.weak fun i m => List.mem_append_right _ m).on e1, er, fun v2 H2 bx2 e2 r2 => ?_⟩
    exact g3 _ H2 bx2 (e1.trans e2) (.cons ((Pn.of e2 (fun a p => p.2) r1 e1.box).back e1 e2) (r2.back e1 e2))
  · obtain ⟨bx, P, env, bs, d, bs', g1, g2, g3⟩ := q
    simp only [evs, bind_def, pure_def, bnd_some, ret_some] at g2
    obtain ⟨x, b1, ex, r, b2, er, rfl, rfl⟩ := g2
    simp only [sks] at g1
    refine ⟨bx, P, env, bs, x, b1, g1.weak fun i m => List.mem_append_left _ m, ex, fun v1 H1 bx1 e1 r1 => ?_⟩
    refine ⟨bx1, _, env, b1, r, _, (g1.weak fun i m => List.mem_append_right _ m).on e1, er, fun v2 H2 bx2 e2 r2 => ?_⟩
    exact g3 _ H2 bx2 (e1.trans e2) ⟨v1, v2, rfl, (r1.on e2 (fun a p => p.2) e1.box).back e1 e2, r2.mono (Pn.trans e1 e2)⟩
/-! ### displays -/
theorem se_tup {cs : CEs} {es : List Expr} {k : Nat} {pos : Pos} (h : SA X cl cs es) : SE X cl (.tup cs) (.Tuple es k pos) := by
  refine SE.of (by simp only [skA, sk]) rfl (PE.imp (pe_tup h.full) fun σ H Q q => ?_) (fun _ => rfl)
  obtain ⟨bx, P, env, bs, d, bs', g1, g2, g3⟩ := q
  simp only [ev, bind_def, pure_def, bnd_some] at g2
  obtain ⟨ds, b1, ex, g2⟩ := g2
  simp only [sk] at g1
  split at g2
  · rename_i hz
    obtain ⟨rfl, rfl⟩ := ret_some.mp g2
    refine ⟨bx, P, env, bs, ds, _, g1, ex, fun vs H1 bx1 e1 r1 => ⟨by rw [← r1.length]; exact hz, fun p hp => ?_⟩⟩
    have e2 := EPost.new (o := .tup vs) e1.box hp
    refine g3 _ _ bx1 (e1.trans e2) ?_
    simp only [Rep]
    exact ⟨p, vs, rfl, upd_same, (Pn.ofs e2 (fun a p => p.2) r1 e1.box).back e1 e2⟩
  · simp [lift_some] at g2
theorem se_lst {cs : CEs} {es : List Expr} {pos : Pos} (h : SA X cl cs es) : SE X cl (.lst cs) (.List es pos) := by
  refine SE.ofN (by simp only [skA, sk]) (PE.imp (pe_lst h.full) fun σ H Q q => ?_) (fun _ => rfl)
  obtain ⟨bx, P, env, bs, d, bs', g1, g2, g3⟩ := q
  simp only [ev, bind_def, pure_def, bnd_some] at g2
  obtain ⟨ds, b1, ex, g2⟩ := g2
  simp only [sk] at g1
  split at g2
  · rename_i hz
    obtain ⟨rfl, rfl⟩ := ret_some.mp g2
    refine ⟨bx, P, env, bs, ds, _, g1, ex, fun vs H1 bx1 e1 r1 => ⟨by rw [← r1.length]; exact hz, fun p hp => ?_⟩⟩
    have e2 := EPost.new (o := .lst vs) e1.box hp
    refine g3 _ _ bx1 (e1.trans e2) ?_
    exact ⟨fun _ => ⟨p, rfl, (fresh_of e1 hp).1, .newL hp (fresh_of e1 hp).2 r1⟩, fun z => by cases z⟩
  · simp [lift_some] at g2
/-! ### a[b] -/
def noSl : Expr → Bool
  | .Slice .. => false
  | _ => true
theorem plainIx_of {b : Expr} (h : noSl b = true) : PlainIx b := by
  cases b <;> first | exact fun _ _ => rfl | (exact absurd (show false = true from h) Bool.false_ne_true)
def IxD (X : Cx) (g : D → D → Option D) : Prop :=
  IxR X (fun x y H Q => ∃ bx P bs a b d, BoxRel (RX X bx) H bs ∧ (∀ a, P a → ¬InBox (RX X bx) a) ∧ RepB (RX X bx) P H a x ∧ RepB (RX X bx) P H b y ∧ g a b = some d ∧
    ∀ v H', EPost (RX X bx) (RX X bx) H H' bs → Rep (RX X bx) (Pn (RX X bx) P H) H' d v → Q v H')
theorem se_idx {a b : CE} {l r : Expr} {pos : Pos} (ho : IxD X idxD) (hn : noSl r = true) (ha : SE X cl a l) (hb : SE X cl b r) : SE X cl (.idx a b) (.Subscript l r pos) := by
  refine SE.of (by simp only [skA, sk]) rfl (PE.imp (pe_ix ho ha.lk hb.lk (plainIx_of hn)) fun σ H Q q => ?_) (fun _ => rfl)
  obtain ⟨bx, P, env, bs, d, bs', h1, h2, h3⟩ := q
  simp only [ev, bind_def, bnd_some, lift_some] at h2
  obtain ⟨x, b1, ex, y, b2, ey, eg, rfl⟩ := h2
  refine lk2 h1 (fun i m => by simp only [sk, List.mem_append]; exact .inl m) (fun i m => by simp only [sk, List.mem_append]; exact .inr m) ex ey fun v1 v2 H2 bx2 e2 r1 r2 => ?_
  exact ⟨bx2, _, _, x, y, d, e2.box, fun a p => p.2, r1, r2, eg, fun v H3 e3 r3 => h3 v H3 bx2 (e2.trans e3) (r3.back e2 e3)⟩
/-! ### a[lo:hi] -/
structure SO (X : Cx) (cl : Calls) (c : CO) (e : Option Expr) : Prop where
  run : PO X e (fun σ H Q => ∃ bx P env bs d bs', ERel (RX X bx) P (skO c) H σ env bs ∧ evO cl c env bs = some (d, bs') ∧ ∀ H' bx', EPost (RX X bx) (RX X bx') H H' bs' → Q d H')
theorem so_no : SO X cl .no none := by
  refine ⟨⟨fun pins s σ H Q I q => po_none.run pins s σ H Q I ?_⟩⟩
  obtain ⟨bx, P, env, bs, d, bs', h1, h2, h3⟩ := q
  simp only [evO, pure_def, ret_some] at h2
  obtain ⟨rfl, rfl⟩ := h2
  exact h3 H bx (.refl h1.box)
theorem so_so {c : CE} {e : Expr} (h : SE X cl c e) : SO X cl (.so c) (some e) := by
  refine ⟨⟨fun pins s σ H Q I q => (po_some h.lk).run pins s σ H Q I ?_⟩⟩
  obtain ⟨bx, P, env, bs, d, bs', h1, h2, h3⟩ := q
  simp only [evO, bind_def, bnd_some] at h2
  obtain ⟨x, b1, ex, h2⟩ := h2
  simp only [skO] at h1
  refine ⟨bx, P, env, bs, x, b1, h1, ex, fun v H1 bx1 e1 r1 => ?_⟩
  cases x with
  | int i =>
    simp only [pure_def, ret_some] at h2
    obtain ⟨rfl, rfl⟩ := h2
    simp only [RepB, Rep] at r1
    exact ⟨i, r1, h3 _ _ e1⟩
  | _ => simp [lift_some] at h2
def SlD (X : Cx) (g : D → Option Int → Option Int → Option D) : Prop :=
  SlR X (fun x lo hi H Q => ∃ bx P bs a d, BoxRel (RX X bx) H bs ∧ (∀ a, P a → ¬InBox (RX X bx) a) ∧ RepB (RX X bx) P H a x ∧ g a lo hi = some d ∧
    ∀ v H', EPost (RX X bx) (RX X bx) H H' bs → NewRep (RX X bx) (Pn (RX X bx) P H) H H' d v → Q v H')
theorem se_slc {a : CE} {lo hi : CO} {e : Expr} {el eh : Option Expr} {p2 pos : Pos} (ho : SlD X slcD) (ha : SE X cl a e) (hl : SO X cl lo el) (hh : SO X cl hi eh) : SE X cl (.slc a lo hi) (.Subscript e (.Slice el eh none p2) pos) := by
  refine SE.ofN (by simp only [skA, sk]) (PE.imp (pe_slice ho ha.lk hl.run hh.run) fun σ H Q q => ?_) (fun _ => rfl)
  obtain ⟨bx, P, env, bs, d, bs', h1, h2, h3⟩ := q
  simp only [ev, bind_def, bnd_some, lift_some] at h2
  obtain ⟨x, b1, ex, l, b2, el', h, b3, eh', eg, rfl⟩ := h2
  simp only [sk] at h1
  refine ⟨bx, P, env, bs, x, b1, h1.weak fun i m => List.mem_append_left _ m, ex, fun v1 H1 bx1 e1 r1 => ?_⟩
  refine ⟨bx1, _, env, b1, l, b2, (h1.weak fun i m => List.mem_append_right _ (List.mem_append_left _ m)).on e1, el', fun H2 bx2 e2 => ?_⟩
  refine ⟨bx2, _, env, b2, h, _, (h1.weak fun i m => List.mem_append_right _ (List.mem_append_right _ m)).on (e1.trans e2), eh', fun H3 bx3 e3 => ?_⟩
  have e13 := (e1.trans e2).trans e3
  exact ⟨bx3, _, _, x, d, e3.box, fun a p => p.2, (((r1.on e2 (fun a p => p.2) e1.box).back e1 e2).on e3 (fun a p => p.2) e2.box).back (e1.trans e2) e3, eg, fun v H4 e4 r4 => h3 v H4 bx3 (e13.trans e4) (r4.back e13 e4)⟩
/-! ### built-ins by value -/
def CallD (X : Cx) (f : Value) (g : List D → Option D) : Prop :=
  CallR X f (fun vs H Q => ∃ bx P bs ds d, BoxRel (RX X bx) H bs ∧ (∀ a, P a → ¬InBox (RX X bx) a) ∧ RepBs (RX X bx) P H ds vs ∧ g ds = some d ∧
    ∀ v H', EPost (RX X bx) (RX X bx) H H' bs → NewRep (RX X bx) (Pn (RX X bx) P H) H H' d v → Q v H')
theorem se_bi {b : BI} {cs : CEs} {e : Expr} {es : List Expr} {x : Str} {f : Value} {p pos : Pos} (hf : (∃ id, f = .builtin id) ∨ ∃ T, f = .type T) (ho : CallD X f (biD b)) (hg : Gl X x) (hm : X.mg x = none) (hv : bootBuiltins x = some f)
    (ha : SA X cl cs (e :: es)) (hn : x ≠ "__name__") (hdb : (x == ("__debug__" : Str)) = false) (hs : (e :: es).all ns = true) : SE X cl (.bi b cs) (.Call (.Name x p) (e :: es) [] pos) := by
  have hs' : ns e = true ∧ es.all ns = true := by simpa only [List.all_cons, Bool.and_eq_true] using hs
  have key : PE X (.Call (.Name x p) (e :: es) [] pos) (tCB (fun vs H Q => ∃ bx P bs ds d, BoxRel (RX X bx) H bs ∧ (∀ a, P a → ¬InBox (RX X bx) a) ∧ RepBs (RX X bx) P H ds vs ∧ biD b ds = some d ∧
    ∀ v H', EPost (RX X bx) (RX X bx) H H' bs → NewRep (RX X bx) (Pn (RX X bx) P H) H H' d v → Q v H') (tLs X (sks cs) (evs cl cs))) := by
    rcases hf with ⟨id, rfl⟩ | ⟨T, rfl⟩
    · exact pe_callB ho hg hm hv ha.lk hn hdb (star_ns hs'.1) (back_ns hs'.2)
    · exact pe_callTy ho hg hm hv ha.lk hn hdb (star_ns hs'.1) (back_ns hs'.2)
  refine SE.ofN (by simp only [skA, sk]) (PE.imp key fun σ H Q q => ?_) (fun _ => rfl)
  obtain ⟨bx, P, env, bs, d, bs', h1, h2, h3⟩ := q
  simp only [ev, bind_def, bnd_some, lift_some] at h2
  obtain ⟨ds, b1, ex, eg, rfl⟩ := h2
  simp only [sk] at h1
  refine ⟨bx, P, env, bs, ds, _, h1, ex, fun vs H1 bx1 e1 r1 => ?_⟩
  exact ⟨bx1, _, _, ds, d, e1.box, fun a p => p.2, r1, eg, fun v H3 e3 r3 => h3 v H3 bx1 (e1.trans e3) (r3.back e1 e3)⟩
end
end En

/-! The engine, part g: what is walked, targets, comprehensions, calls of defs. -/
namespace En
open PySem PySem.Spec PyProof.Rows L2

/-! ### zip of lists and tuples in any mix -/
def SqX (t : Bool) (K : PySem.W.Frag) (H : Hp) (a : Addr) (xs : List V) : Prop := match t with
  | true => SqT K H a xs
  | false => SqL K H a xs
def ItX (t : Bool) (h : Heap) (it a : Addr) (i : Nat) : Prop := match t with
  | true => h.IsTupleIter it a i
  | false => h.IsListIter it a i
def IsX (t : Bool) (h : Heap) (a : Addr) (its : Array Value) : Prop := match t with
  | true => h.IsTuple a its
  | false => h.IsList a its
theorem ItX.obj {t : Bool} {h : Heap} {it a : Addr} {i : Nat} (s : ItX t h it a i) : ∃ o, h.get? it = some o ∧ ∀ v, o.data ≠ .cell v := by
  cases t with
  | true => obtain ⟨o, e, _, d⟩ := (show h.IsTupleIter it a i from s); exact ⟨o, e, fun v q => by rw [d] at q; cases q⟩
  | false => obtain ⟨o, e, _, d⟩ := (show h.IsListIter it a i from s); exact ⟨o, e, fun v q => by rw [d] at q; cases q⟩
theorem ItX.at {t : Bool} {h h' : Heap} {it a : Addr} {i : Nat} (s : ItX t h it a i) (k : ∀ o, h.get? it = some o → h'.get? it = some o) : ItX t h' it a i := by
  cases t with
  | true => exact (show h.IsTupleIter it a i from s).at k
  | false => exact (show h.IsListIter it a i from s).at k
theorem seqX {X : Cx} {pins : List (Addr × Obj)} {σ : L2.St} {H : Hp} {s : Shared} {t : Bool} {a : Addr} {xs : List V} (I : L2.Inv X pins σ H s) (h : SqX t X.K H a xs) : ∃ its : List Value, Vals xs its ∧ IsX t s.heap a its.toArray ∧ a < s.heap.objs.size := by
  cases t with
  | true => obtain ⟨its, r, p, _⟩ := I.tuple h; obtain ⟨o, e, _⟩ := id p; exact ⟨its, r, p, Heap.lt_size e⟩
  | false => obtain ⟨its, r, p, _⟩ := I.list h; exact ⟨its, r, p.isList, p.lt⟩
theorem seqX_inj {X : Cx} {pins : List (Addr × Obj)} {σ : L2.St} {H : Hp} {s : Shared} {t : Bool} {a : Addr} {xs ys : List V} (I : L2.Inv X pins σ H s) (h : SqX t X.K H a xs) (h' : SqX t X.K H a ys) : xs = ys := by
  cases t with
  | true => exact I.tuple_inj h h'
  | false => exact I.list_inj h h'
theorem drawsX {prog : Program} {w : World} {A : Around} (hh : A.handled = none) (t : Bool) (it a : Addr) (hne : a ≠ it) (items : Array Value) :
    Draws prog w A it [it, a] items.size (fun i v => items[i]? = some v) (fun i h => ItX t h it a i ∧ IsX t h a items) := by
  cases t with
  | true => exact Draws.tuple hh it a hne items
  | false => exact Draws.list hh it a hne items
def ItzX (t u : Bool) (K : PySem.W.Frag) (a b : Addr) : It :=
  ⟨fun i H => ∃ (xs ys : List V) (x y : V), SqX t K H a xs ∧ SqX u K H b ys ∧ xs[i]? = some x ∧ ys[i]? = some y,
    fun i H v H' => ∃ T x y, v = .ref T ∧ H T = none ∧ H' = upd H T (.tup [x, y]) ∧ (∀ xs, SqX t K H a xs → xs[i]? = some x) ∧ ∀ ys, SqX u K H b ys → ys[i]? = some y,
    fun i H => ∃ xs ys : List V, SqX t K H a xs ∧ SqX u K H b ys ∧ i ≤ xs.length ∧ i ≤ ys.length ∧ (i = xs.length ∨ i = ys.length)⟩
theorem turn_zipX {P : Program} {w : World} {K : PySem.W.Frag} {elts : List Expr} {kk : Nat} {tpos : Pos} {t u : Bool} {a b z TI TO i1 i2 : Addr} (D : ZipSep2 z TI TO i1 i2 [i1, a] [i2, b]) (na : a ≠ i1) (nb : b ≠ i2) :
    Turn P w K (.Tuple elts kk tpos) (ItzX t u K a b) [z, TI, TO, i1, i2] z (fun i h => IsZip h z TI TO .none ∧ IsTupOf2 h TI (.ref i1) (.ref i2) ∧ (∃ x y, IsTupOf2 h TO x y) ∧ ItX t h i1 a i ∧ ItX u h i2 b i) where
  mem := by simp
  obj := fun i h st c hc => by
    obtain ⟨hz, hTI, ⟨x, y, hTO⟩, h1, h2⟩ := st
    have e' : c = z ∨ c = TI ∨ c = TO ∨ c = i1 ∨ c = i2 := by simpa using hc
    rcases e' with q | q | q | q | q
    · rw [q]; exact ⟨_, hz, fun v q => nomatch q⟩
    · rw [q]; exact ⟨_, hTI, fun v q => nomatch q⟩
    · rw [q]; exact ⟨_, hTO, fun v q => nomatch q⟩
    · rw [q]; exact h1.obj
    · rw [q]; exact h2.obj
  keep := fun i h h' st k => by
    obtain ⟨hz, hTI, ⟨x, y, hTO⟩, h1, h2⟩ := st
    exact ⟨k z (by simp) _ hz, k TI (by simp) _ hTI, ⟨x, y, k TO (by simp) _ hTO⟩, h1.at fun o q => k i1 (by simp) o q, h2.at fun o q => k i2 (by simp) o q⟩
  item := by
    intro X hP hw hK hc i pins s σ H E I hf st hg
    subst hP hw hK
    obtain ⟨hz, hTI, ⟨x0, y0, hTO⟩, h1, h2⟩ := st
    obtain ⟨xs, ys, x, y, hqx, hqy, hx, hy⟩ := hg
    obtain ⟨its, rv, p, _⟩ := seqX I hqx
    obtain ⟨its2, rv2, p2, _⟩ := seqX I hqy
    obtain ⟨v, hv, ru⟩ := rv.get hx
    obtain ⟨v2, hv2, ru2⟩ := rv2.get hy
    have hzl : z < s.heap.objs.size := Heap.lt_size hz
    have hh : X.A.in1.handled = none := I.ok.hd hc
    have hn1 : i < its.toArray.size := by
      obtain ⟨q, _⟩ := List.getElem?_eq_some_iff.mp hv; simpa using q
    have hn2 : i < its2.toArray.size := by
      obtain ⟨q, _⟩ := List.getElem?_eq_some_iff.mp hv2; simpa using q
    obtain ⟨oi1, ei1, _⟩ := h1.obj
    obtain ⟨oi2, ei2, _⟩ := h2.obj
    refine wpAny_pyNext_zipD2_item D (drawsX hh t i1 a na its.toArray) (drawsX hh u i2 b nb its2.toArray) hz hTI hTO ⟨h1, p⟩ ⟨h2, p2⟩ hn1 hn2 fun w1 w2 h' tk e1 e2 z' TO' d1 d2 hT hsz hk => ?_
    have q1 : w1 = v := by
      have := e1; simp at this; rw [hv] at this; cases this; rfl
    have q2 : w2 = v2 := by
      have := e2; simp at this; rw [hv2] at this; cases this; rfl
    subst q1 q2
    refine ⟨_, rfl, wpAny_letOwnedTupleGo_zip (s := { s with heap := h', toks := tk }) z' fun h'' z'' sb => ?_⟩
    have hT2 : h''.get? s.heap.objs.size = some { cls := .type "tuple", data := .seq #[w1, w2] } := (sb.2 _ (Nat.ne_of_gt hzl)).trans hT
    have new : ObjOk X.prog X.w (upd H s.heap.objs.size (.tup [x, y])) h'' s.heap.objs.size (.tup [x, y]) :=
      ⟨by show 2 ≤ sizeLine; decide, [w1, w2], .cons ru (.cons ru2 .nil), ⟨_, hT2, rfl, _, rfl⟩⟩
    have I1 : L2.Inv X pins σ (upd H s.heap.objs.size (.tup [x, y])) { s with heap := h'', toks := tk } :=
      I.turnedNew (t' := tk) (ch := [z, TI, TO, i1, i2]) (fun c o hb q => (sb.2 c (fun q' => hb (by simp [q']))).trans (hk c o (fun q' => hb (by simp [q'])) (fun q' => hb (by simp [q'])) (fun q' => hb (by simp [q'])) (fun q' => hb (by simp [q'])) q)) hf (Nat.le_refl _) new
    refine ⟨.ref s.heap.objs.size, _, I1, rfl, ⟨_, x, y, rfl, I.hok.fresh (Nat.le_refl _), rfl, fun l hl => by rw [seqX_inj I hl hqx]; exact hx, fun l hl => by rw [seqX_inj I hl hqy]; exact hy⟩, ⟨z'', ?_, ⟨w1, w2, ?_⟩, ?_, ?_⟩, fun c hcm => ?_⟩
    · exact (sb.2 _ D.TIz).trans (hk _ _ D.TIz D.TITO D.TIi1 D.TIi2 hTI)
    · exact (sb.2 _ D.TOz).trans TO'
    · exact d1.1.at fun o q => (sb.2 _ D.zi1.symm).trans q
    · exact d2.1.at fun o q => (sb.2 _ D.zi2.symm).trans q
    · have hlt : c < s.heap.objs.size := by
        have e' : c = z ∨ c = TI ∨ c = TO ∨ c = i1 ∨ c = i2 := by simpa using hcm
        rcases e' with q | q | q | q | q
        · rw [q]; exact hzl
        · rw [q]; exact Heap.lt_size hTI
        · rw [q]; exact Heap.lt_size hTO
        · rw [q]; exact Heap.lt_size ei1
        · rw [q]; exact Heap.lt_size ei2
      rw [upd_ne (Nat.ne_of_lt hlt)]
      exact (hf c hcm).1
  done := by
    intro X hP hw hK hc i pins s σ H E I hf st hg
    subst hP hw hK
    obtain ⟨hz, hTI, ⟨x0, y0, hTO⟩, h1, h2⟩ := st
    obtain ⟨xs, ys, hqx, hqy, le1, le2, hend⟩ := hg
    obtain ⟨its, rv, p, _⟩ := seqX I hqx
    obtain ⟨its2, rv2, p2, _⟩ := seqX I hqy
    have l1 : its.toArray.size = xs.length := by have := rv.length; simp; omega
    have l2 : its2.toArray.size = ys.length := by have := rv2.length; simp; omega
    have hh : X.A.in1.handled = none := I.ok.hd hc
    exact wpAny_pyNext_zipD2_end D (drawsX hh t i1 a na its.toArray) (drawsX hh u i2 b nb its2.toArray) hz hTI hTO ⟨h1, p⟩ ⟨h2, p2⟩ (by omega) (by omega) (by omega) fun h' tk hk => ⟨rfl, I.turnedL (t' := tk) (ch := [z, TI, TO, i1, i2]) (fun c o hb q =>
      hk c o (fun q' => hb (by simp [q'])) (fun q' => hb (by simp [q'])) (fun q' => hb (by simp [q'])) (fun q' => hb (by simp [q'])) q) hf⟩
  self := fun A i s Q E st h => wpAny_pyIter_zip st.1 h

def oX (t : Bool) (a : Addr) : Obj := match t with
  | true => { cls := .type "tuple_iterator", data := .fields #[.ref a, .int 0 0] }
  | false => { cls := .type "list_iterator", data := .fields #[.ref a, .int 0 0] }
theorem begX (t : Bool) (a : Addr) (its : Array Value) : Begins (.ref a) (oX t a) fun h => IsX t h a its := by
  cases t with
  | true => exact begins_tuple a its
  | false => exact begins_list a its
theorem itX_new {t : Bool} {h : Heap} {i a : Addr} (e : h.get? i = some (oX t a)) : ItX t h i a 0 := by
  cases t with
  | true => exact ⟨_, e, rfl, rfl⟩
  | false => exact ⟨_, e, rfl, rfl⟩
def iZipX (K : PySem.W.Frag) (ta : TA) : TI := fun σ H R => ta σ H fun vs H1 => ∃ t u a b xs ys, vs = [.ref a, .ref b] ∧ SqX t K H1 a xs ∧ SqX u K H1 b ys ∧ R (ItzX t u K a b) H1
theorem pi_zipX {X : Cx} {e e2 : Expr} {ta : TA} {p pos tpos : Pos} {elts : List Expr} {kk : Nat} (hg : Gl X "zip") (hm : X.mg "zip" = none) (ha : PA X [e, e2] ta)
    (hs : starEach [e, e2] X.env = (false, eval e X.env) :: starEach [e2] X.env) (hpl : (backTo pos (starEach [e2] X.env)).any (·.1) = false) :
    PI X (.Tuple elts kk tpos) (.Call (.Name "zip" p) [e, e2] [] pos) (iZipX X.K ta) := by
  refine ⟨fun pins s σ H R I h => ?_⟩
  refine Call_ (ld_blt I hg hm PyProof.Rows.boot_zip (PyProof.Rows.callWith_type1 (thn (ha.run pos pins s σ H _ I h) fun us s1 ⟨vs, H1, I1, r1, q1⟩ => ?_) hs hpl))
  obtain ⟨t, u, a, b, xs, ys, ex, hqx, hqy, q⟩ := q1
  subst ex
  cases r1 with
  | cons r rr =>
    cases rr with
    | cons r' rr =>
      cases rr
      cases r
      cases r'
      have fresh5 : ∀ c, c ∈ [s1.heap.objs.size + 4, s1.heap.objs.size + 2, s1.heap.objs.size + 3, s1.heap.objs.size, s1.heap.objs.size + 1] → FpOk X pins H1 c := fun c hcm => by
        have e' : c = s1.heap.objs.size + 4 ∨ c = s1.heap.objs.size + 2 ∨ c = s1.heap.objs.size + 3 ∨ c = s1.heap.objs.size ∨ c = s1.heap.objs.size + 1 := by simpa using hcm
        have hle : s1.heap.objs.size ≤ c := by
          rcases e' with z | z | z | z | z
          · rw [z]; exact Nat.le_add_right _ _
          · rw [z]; exact Nat.le_add_right _ _
          · rw [z]; exact Nat.le_add_right _ _
          · rw [z]; exact Nat.le_refl _
          · rw [z]; exact Nat.le_add_right _ _
        exact I1.fpOk hle (I1.hok.fresh hle)
      obtain ⟨its, rv, p1, la⟩ := seqX I1 hqx
      obtain ⟨its2, rv2, p2, lb⟩ := seqX I1 hqy
      refine zip_begins2 (begX t a its.toArray) (begX u b its2.toArray) p1 p2 fun h' hz hTI hTO h1 h2 hsz hk => wpAny_pyIter_zip hz ?_
      have I2 : L2.Inv X pins σ H1 { s1 with heap := h' } := I1.kept (t' := s1.toks) hk
      have D := zip_sep2 (N := s1.heap.objs.size) (fp1 := [a]) (fp2 := [b]) (fun c m => by simp at m; rw [m]; exact la) (fun c m => by simp at m; rw [m]; exact lb)
      exact ⟨s1.heap.objs.size + 4, [s1.heap.objs.size + 4, s1.heap.objs.size + 2, s1.heap.objs.size + 3, s1.heap.objs.size, s1.heap.objs.size + 1], _, _, H1, rfl, I2, turn_zipX D (Nat.ne_of_lt la) (Nat.ne_of_lt (Nat.lt_succ_of_lt lb)), ⟨hz, hTI, ⟨_, _, hTO⟩, itX_new h1, itX_new h2⟩, fresh5, q⟩
/-! ### enumerate of a list or a tuple -/
def IteX (t : Bool) (K : PySem.W.Frag) (a : Addr) : It :=
  ⟨fun i H => ∃ (xs : List V) (x : V), SqX t K H a xs ∧ xs[i]? = some x, fun i H v H' => ∃ T x, v = .ref T ∧ H T = none ∧ H' = upd H T (.tup [.int (i : Nat), x]) ∧ ∀ xs, SqX t K H a xs → xs[i]? = some x, fun i H => ∃ xs : List V, SqX t K H a xs ∧ i = xs.length⟩
theorem turn_enumX {P : Program} {w : World} {K : PySem.W.Frag} {elts : List Expr} {kk : Nat} {tpos : Pos} {t : Bool} (a e it : Addr) (na : a ≠ it) (ne : e ≠ a) :
    Turn P w K (.Tuple elts kk tpos) (IteX t K a) [e, it] e (fun i h => (∃ old, IsEnum h e it ((i : Nat) : Int) old) ∧ ItX t h it a i ∧ e ≠ it) where
  mem := by simp
  obj := fun i h st b hb => by
    obtain ⟨⟨old, he⟩, hi, _⟩ := st
    have e' : b = e ∨ b = it := by simpa using hb
    rcases e' with z | z
    · rw [z]; exact ⟨_, he, fun v q => nomatch q⟩
    · rw [z]; exact hi.obj
  keep := fun i h h' st k => let ⟨⟨old, he⟩, hi, hne⟩ := st; ⟨⟨old, k e (by simp) _ he⟩, hi.at fun o q => k it (by simp) o q, hne⟩
  item := by
    intro X hP hw hK hc i pins s σ H E I hf st hg
    subst hP hw hK
    obtain ⟨⟨old, he⟩, hit, hne⟩ := st
    obtain ⟨xs, x, hq, hx⟩ := hg
    obtain ⟨its, rv, p, hal⟩ := seqX I hq
    obtain ⟨u, hu, ru⟩ := rv.get hx
    have hel : e < s.heap.objs.size := Heap.lt_size he
    obtain ⟨oi, ei, _⟩ := hit.obj
    have hil : it < s.heap.objs.size := Heap.lt_size ei
    have hh : X.A.in1.handled = none := I.ok.hd hc
    have hn1 : i < its.toArray.size := by
      obtain ⟨q, _⟩ := List.getElem?_eq_some_iff.mp hu; simpa using q
    refine wpAny_pyNext_enum_itemD (drawsX hh t it a na its.toArray) he ⟨hit, p⟩ hn1 hne (by simp [hne, ne]) fun v h' tk e1 ho d1 hT hsz hk => ?_
    have q1 : v = u := by
      have := e1; simp at this; rw [hu] at this; cases this; rfl
    subst q1
    refine ⟨_, rfl, wpAny_letOwnedTupleGo_enum (s := { s with heap := h', toks := tk + 1 }) ho fun h'' he' sb => ?_⟩
    have hT2 : h''.get? s.heap.objs.size = some { cls := .type "tuple", data := .seq #[.int i tk, v] } := (sb.2 _ (Nat.ne_of_gt hel)).trans hT
    have new : ObjOk X.prog X.w (upd H s.heap.objs.size (.tup [.int (i : Nat), x])) h'' s.heap.objs.size (.tup [.int (i : Nat), x]) :=
      ⟨by show 2 ≤ sizeLine; decide, [.int i tk, v], .cons ⟨_, rfl⟩ (.cons ru .nil), ⟨_, hT2, rfl, _, rfl⟩⟩
    have I1 : L2.Inv X pins σ (upd H s.heap.objs.size (.tup [.int (i : Nat), x])) { s with heap := h'', toks := tk + 1 } :=
      I.turnedNew (ch := [e, it]) (fun b ob hb q => (sb.2 b (fun z => hb (by simp [z]))).trans (hk b ob (fun z => hb (by simp [z])) (fun z => hb (by simp [z])) q)) hf (Nat.le_refl _) new
    refine ⟨.ref s.heap.objs.size, _, I1, rfl, ⟨_, x, rfl, I.hok.fresh (Nat.le_refl _), rfl, fun ys hy => by rw [seqX_inj I hy hq]; exact hx⟩, ⟨⟨v, ?_⟩, d1.1.at fun o q => (sb.2 it (Ne.symm hne)).trans q, hne⟩, fun b hb => ?_⟩
    · have e1 : ((i + 1 : Nat) : Int) = (i : Int) + 1 := by omega
      rw [e1]; exact he'
    · have hb' : b < s.heap.objs.size := by
        have e' : b = e ∨ b = it := by simpa using hb
        rcases e' with z | z
        · rw [z]; exact hel
        · rw [z]; exact hil
      rw [upd_ne (Nat.ne_of_lt hb')]
      exact (hf b hb).1
  done := by
    intro X hP hw hK hc i pins s σ H E I hf st hg
    subst hP hw hK
    obtain ⟨⟨old, he⟩, hit, hne⟩ := st
    obtain ⟨xs, hq, hx⟩ := hg
    obtain ⟨its, rv, p, hz⟩ := seqX I hq
    obtain ⟨f0, f1, f2, f3, f4, f5⟩ := hf it (by simp)
    have hl : its.toArray.size = xs.length := by have := rv.length; simp; omega
    have hh : X.A.in1.handled = none := I.ok.hd hc
    have hi : i = its.toArray.size := by omega
    subst hi
    exact wpAny_pyNext_enum_endD (drawsX hh t it a na its.toArray) he ⟨hit, p⟩ fun h' eb => ⟨rfl, I.turned (t' := s.toks) (fun b o hb q => eb b o hb q) f0 f1 f3 f4 f5⟩
  self := fun A i s Q E st h => let ⟨⟨_, he⟩, _⟩ := st; wpAny_pyIter_enum he h
set_option maxHeartbeats 1000000 in
theorem meets_enumerate_newB1 {v : Value} {o : Obj} {H : Heap → Prop} (B : Begins v o H) :
    Meets (Builtin.«enumerate.__new__» ⟨[.type "enumerate", v], []⟩) (fun _ R s => H s.heap ∧
      R (.ok (.ret (.ref (s.heap.push o).objs.size))) { s with heap := (s.heap.push o).push { cls := .type "enumerate", data := .fields #[.none, .bool false, .ref s.heap.objs.size, rawInt 0, .none, .none] } }) :=
  .of_wp fun prog w A R s h => by
    obtain ⟨hp, g, d, tk, os⟩ := s; obtain ⟨h1, h⟩ := h
    have hsub := sub_enumerate
    have q1 : ∀ {A' : Around} {E : Value → Shared → Prop} {Q : Value → Shared → Prop}, Q (.ref hp.objs.size) ⟨hp.push o, g, d, tk, os⟩ → wpAny (model prog w) A' (pyIter v) Q E ⟨hp, g, d, tk, os⟩ :=
      fun q => B.iter prog w _ _ ⟨hp, g, d, tk, os⟩ _ h1 q
    wp_walk using q1
    refine wpAny_stack_any fun st => wpAny_pure ?_
    split
    · rename_i c _ _ _ _ _
      cases (c == Value.type "enumerate")
      · wp_walk using q1
        exact ⟨_, rfl, h⟩
      · wp_walk using q1
        exact ⟨_, rfl, h⟩
    · wp_walk using q1
      exact ⟨_, rfl, h⟩
theorem enum_begins1 {prog : Program} {w : World} {A : Around} {E : Value → Shared → Prop} {s : Shared} {v : Value} {o : Obj} {H : Heap → Prop} {Q : Value → Shared → Prop} (B : Begins v o H) (h1 : H s.heap)
    (h : ∀ h', IsEnum h' (s.heap.objs.size + 1) s.heap.objs.size 0 .none → h'.get? s.heap.objs.size = some o → h'.objs.size = s.heap.objs.size + 2 →
      (∀ b o, s.heap.get? b = some o → h'.get? b = some o) → Q (.ref (s.heap.objs.size + 1)) { s with heap := h' }) :
    wpAny (model prog w) A (call (.type "enumerate") [v]) Q E s := by
  refine callType_new F.called_enumerate (by decide) (F.typeCall_enumerate_1 _) (F.newCall_enumerate_1 _) (fun obj => F.args_object_init_2 obj _) F.entry_enumerate_new
    (meets_enumerate_newB1 B) ⟨h1, ?_⟩
  have hz : (s.heap.push o).objs.size = s.heap.objs.size + 1 := Heap.size_push ..
  show _ ∧ _
  rw [hz]
  have he : IsEnum ((s.heap.push o).push { cls := .type "enumerate", data := .fields #[.none, .bool false, .ref s.heap.objs.size, rawInt 0, .none, .none] }) (s.heap.objs.size + 1) s.heap.objs.size 0 .none := by
    have := Heap.get?_push_size (s.heap.push o) (o := { cls := .type "enumerate", data := .fields #[.none, .bool false, .ref s.heap.objs.size, rawInt 0, .none, .none] }) rfl
    rw [hz] at this; exact this
  refine ⟨⟨_, he, rfl⟩, h _ he (Heap.get?_push_of_some _ (Heap.get?_push_size _ B.free)) (by rw [Heap.size_push, hz]) fun b o x => Heap.get?_push_of_some _ (Heap.get?_push_of_some _ x)⟩
def iEnumX (K : PySem.W.Frag) (ta : TA) : TI := fun σ H R => ta σ H fun vs H1 => ∃ t a xs, vs = [.ref a] ∧ SqX t K H1 a xs ∧ R (IteX t K a) H1
theorem pi_enumX {X : Cx} {e : Expr} {ta : TA} {p pos tpos : Pos} {elts : List Expr} {kk : Nat} (hg : Gl X "enumerate") (hm : X.mg "enumerate" = none) (ha : PA X [e] ta) (hs : starEach [e] X.env = [(false, eval e X.env)]) :
    PI X (.Tuple elts kk tpos) (.Call (.Name "enumerate" p) [e] [] pos) (iEnumX X.K ta) := by
  refine ⟨fun pins s σ H R I h => ?_⟩
  refine Call_ (ld_blt I hg hm boot_enumerate (PyProof.Rows.callWith_type1 (thn (ha.run pos pins s σ H _ I h) fun us s1 ⟨vs, H1, I1, r1, q1⟩ => ?_) hs rfl))
  obtain ⟨t, a, xs, ex, hq, q⟩ := q1
  subst ex
  cases r1 with
  | cons r rr =>
    cases rr
    cases r
    obtain ⟨its, rv, p', hal⟩ := seqX I1 hq
    refine enum_begins1 (begX t a its.toArray) p' fun h' he hit hsz hk => wpAny_pyIter_enum he ?_
    have I2 : L2.Inv X pins σ H1 { s1 with heap := h' } := I1.kept (t' := s1.toks) hk
    refine ⟨s1.heap.objs.size + 1, [s1.heap.objs.size + 1, s1.heap.objs.size], _, _, H1, rfl, I2, turn_enumX a (s1.heap.objs.size + 1) s1.heap.objs.size (Nat.ne_of_lt hal) (Nat.ne_of_gt (Nat.lt_succ_of_lt hal)), ⟨⟨.none, he⟩, itX_new hit, Nat.succ_ne_self _⟩, fun b hb => ?_, q⟩
    have e' : b = s1.heap.objs.size + 1 ∨ b = s1.heap.objs.size := by simpa using hb
    have hle : s1.heap.objs.size ≤ b := by
      rcases e' with z | z
      · rw [z]; exact Nat.le_add_right _ _
      · rw [z]; exact Nat.le_refl _
    exact I1.fpOk hle (I1.hok.fresh hle)
end En

/-! The engine, part h: what is walked, targets, comprehensions. -/
namespace En
open PySem PySem.Spec PyProof.Rows L2

/-- an iterator gives these data, while what stood at PT stays -/
def ItOk (R : Rx) (PT P : Addr → Prop) (H : Hp) (J : It) (ds : List D) : Prop :=
  ∀ R2 H2, RxLe R R2 → Ext PT H H2 → J.stop ds.length H2 ∧ ∀ i d, ds[i]? = some d → J.go i H2 ∧ ∀ v H', J.yld i H2 v H' →
    (H' = H2 ∨ ∃ T xs, H2 T = none ∧ H' = upd H2 T (.tup xs)) ∧ Rep R2 (fun a => P a ∧ ∃ o, H a = some o) H' d v
def tIl (X : Cx) (S : List Nat) (f : Env → M (List D)) : TI := fun σ H R => ∃ bx P env bs ds bs', ERel (RX X bx) P S H σ env bs ∧ f env bs = some (ds, bs') ∧
  ∀ J H' bx', EPost (RX X bx) (RX X bx') H H' bs' → ItOk (RX X bx') (NB (RX X bx')) (Pn (RX X bx') P H) H' J ds → R J H'
def tIf (X : Cx) (S : List Nat) (f : Env → M (List D)) : TI := fun σ H R => ∃ bx P env bs ds bs', ERel (RX X bx) P S H σ env bs ∧ f env bs = some (ds, bs') ∧
  ∀ J H' bx', EPost (RX X bx) (RX X bx') H H' bs' → ItOk (RX X bx') (Pn (RX X bx') P H) (Pn (RX X bx') P H) H' J ds → R J H'
structure SI (X : Cx) (cl : Calls) (tg : Expr) (c : CI) (e : Expr) : Prop where
  lk : PI X tg e (tIl X (skI c) (evI cl c))
  full : PI X tg e (tIf X (skIA c) (evI cl c))
theorem PI.imp {X : Cx} {tg e : Expr} {t t' : TI} (h : PI X tg e t) (f : ∀ σ H Q, t' σ H Q → t σ H Q) : PI X tg e t' := ⟨fun pins s σ H Q I q => h.run pins s σ H Q I (f σ H Q q)⟩
/-- a list or a tuple -/
def iSeq (K : PySem.W.Frag) (tl : TE) : TI := fun σ H R => tl σ H fun x H1 => ∃ a, x = .ref a ∧ (((∃ xs, SqL K H1 a xs) ∧ R (Itl K a) H1) ∨ ((∃ xs, SqT K H1 a xs) ∧ R (Itt K a) H1))
theorem pi_seq {X : Cx} {tg l : Expr} {tl : TE} (hl : PE X l tl) : PI X tg l (iSeq X.K tl) := by
  refine ⟨fun pins s σ H R I h => ?_⟩
  refine thn (hl.run pins s σ H _ I h) fun v s1 ⟨x, H1, I1, r1, q1⟩ => ?_
  obtain ⟨a, e, ⟨⟨xs, hq⟩, q⟩ | ⟨⟨xs, hq⟩, q⟩⟩ := q1
  · subst e
    cases r1
    obtain ⟨its, rv, p, hz⟩ := I1.list hq
    refine wpAny_pyIter_list p.isList ?_
    refine ⟨s1.heap.objs.size, [s1.heap.objs.size], _, _, H1, rfl, I1.kept (t' := s1.toks) fun b o e => Heap.get?_push_of_some _ e, turn_list a _, ⟨_, Heap.get?_push_size _ rfl, rfl, rfl⟩, fun b hb => ?_, q⟩
    have e : b = s1.heap.objs.size := by simpa using hb
    subst e
    exact I1.fpOk (Nat.le_refl _) (I1.hok.fresh (Nat.le_refl _))
  · subst e
    cases r1
    obtain ⟨its, rv, p, hz⟩ := I1.tuple hq
    refine wpAny_pyIter_tuple (show s1.heap.IsTuple a its.toArray from p) ?_
    refine ⟨s1.heap.objs.size, [s1.heap.objs.size], _, _, H1, rfl, I1.kept (t' := s1.toks) fun b o e => Heap.get?_push_of_some _ e, turn_tuple a _, ⟨_, Heap.get?_push_size _ rfl, rfl, rfl⟩, fun b hb => ?_, q⟩
    have e : b = s1.heap.objs.size := by simpa using hb
    subst e
    exact I1.fpOk (Nat.le_refl _) (I1.hok.fresh (Nat.le_refl _))
/-! ### lists and tuples that stand -/
/-- a list or tuple: kept by whatever keeps PT -/
def SqAt (R : Rx) (PT : Addr → Prop) (H : Hp) (t : Bool) (a : Addr) (xs : List V) : Prop := match t with
  | true => SqT R.K H a xs
  | false => LstAt R PT H a xs
theorem SqAt.on {R R2 : Rx} {PT : Addr → Prop} {H H2 : Hp} {t : Bool} {a : Addr} {xs : List V} (h : SqAt R PT H t a xs) (hr : RxLe R R2) (e : Ext PT H H2) : SqX t R2.K H2 a xs := by
  cases t with
  | true => show SqT R2.K H2 a xs; rw [hr.K]; exact e.sqT h
  | false => exact (LstAt.mono (P' := PT) hr (fun _ p => p) e h).sq
theorem Reps.ext {R R2 : Rx} {P PT : Addr → Prop} {H H2 : Hp} {ds : List D} {xs : List V} (h : Reps R P H ds xs) (hr : RxLe R R2) (hp : ∀ a, P a → PT a) (e : Ext PT H H2) : Reps R2 (fun a => P a ∧ ∃ o, H a = some o) H2 ds xs :=
  Reps.mono hr (P := fun a => P a ∧ ∃ o, H a = some o) (fun _ p => p) (fun a o q c => e a o q (c.imp (fun z => hp a z.1) id)) _ _ (Reps.dom _ _ h)
theorem ItOk.list {R : Rx} {PT P : Addr → Prop} {H : Hp} {a : Addr} {xs : List V} {ds : List D} (hp : ∀ a, P a → PT a) (h : LstAt R PT H a xs) (r : Reps R P H ds xs) : ItOk R PT P H (Itl R.K a) ds := by
  intro R2 H2 hr e
  have hq : SqL R.K H2 a xs := by have := SqAt.on (t := false) (show SqAt R PT H false a xs from h) hr e; rw [hr.K] at this; exact this
  have r2 := r.ext hr hp e
  refine ⟨⟨xs, hq, Nat.le_of_eq r.length.symm⟩, fun i d hd => ?_⟩
  obtain ⟨x, hx, rx⟩ := r2.get hd
  refine ⟨⟨xs, x, hq, hx⟩, fun v H' ⟨e1, e2⟩ => ⟨.inl e1, ?_⟩⟩
  subst e1
  have := e2 xs hq
  rw [hx] at this
  cases this
  exact rx
theorem ItOk.tup {R : Rx} {PT P : Addr → Prop} {H : Hp} {a : Addr} {xs : List V} {ds : List D} (hp : ∀ a, P a → PT a) (h : SqT R.K H a xs) (r : Reps R P H ds xs) : ItOk R PT P H (Itt R.K a) ds := by
  intro R2 H2 hr e
  have hq : SqT R.K H2 a xs := e.sqT h
  have r2 := r.ext hr hp e
  refine ⟨⟨xs, hq, Nat.le_of_eq r.length.symm⟩, fun i d hd => ?_⟩
  obtain ⟨x, hx, rx⟩ := r2.get hd
  refine ⟨⟨xs, x, hq, hx⟩, fun v H' ⟨e1, e2⟩ => ⟨.inl e1, ?_⟩⟩
  subst e1
  have := e2 xs hq
  rw [hx] at this
  cases this
  exact rx
theorem Rep.updT {R : Rx} {P : Addr → Prop} {H : Hp} {T : Addr} {xs : List V} {d : D} {v : V} (hT : H T = none) (h : Rep R P H d v) : Rep R P (upd H T (.tup xs)) d v :=
  Rep.mono (.refl R) (fun _ p => p) (fun a o q _ => by rw [upd_ne (fun z => by rw [z, hT] at q; cases q)]; exact q) d v h
theorem ItOk.zip {R : Rx} {PT P : Addr → Prop} {H : Hp} {t u : Bool} {a b : Addr} {xs ys : List V} {ds es : List D} (hp : ∀ a, P a → PT a) (h : SqAt R PT H t a xs) (h2 : SqAt R PT H u b ys) (r : Reps R P H ds xs) (r2 : Reps R P H es ys) :
    ItOk R PT P H (ItzX t u R.K a b) ((ds.zip es).map fun p => .tup [p.1, p.2]) := by
  intro R2 H2 hr e
  have hq : SqX t R.K H2 a xs := by have := h.on hr e; rw [hr.K] at this; exact this
  have hq2 : SqX u R.K H2 b ys := by have := h2.on hr e; rw [hr.K] at this; exact this
  have s1 := r.ext hr hp e
  have s2 := r2.ext hr hp e
  have l1 := r.length
  have l2 := r2.length
  refine ⟨⟨xs, ys, hq, hq2, ?_, ?_, ?_⟩, fun i d hd => ?_⟩
  · simp; omega
  · simp; omega
  · simp; omega
  · simp only [List.getElem?_map, Option.map_eq_some_iff] at hd
    obtain ⟨⟨d1, d2⟩, hz, rfl⟩ := hd
    rw [List.getElem?_zip_eq_some] at hz
    obtain ⟨z1, z2⟩ := hz
    obtain ⟨x, hx, rx⟩ := s1.get z1
    obtain ⟨y, hy, ry⟩ := s2.get z2
    refine ⟨⟨xs, ys, x, y, hq, hq2, hx, hy⟩, fun v H' ⟨T, x', y', ev, hT, eH, f1, f2⟩ => ?_⟩
    have q1 := f1 xs hq
    have q2 := f2 ys hq2
    rw [hx] at q1; rw [hy] at q2
    cases q1; cases q2
    subst eH ev
    refine ⟨.inr ⟨T, _, hT, rfl⟩, ?_⟩
    simp only [Rep]
    exact ⟨T, _, rfl, upd_same, .cons (rx.updT hT) (.cons (ry.updT hT) .nil)⟩
theorem ItOk.enum {R : Rx} {PT P : Addr → Prop} {H : Hp} {t : Bool} {a : Addr} {xs : List V} {ds : List D} (hp : ∀ a, P a → PT a) (h : SqAt R PT H t a xs) (r : Reps R P H ds xs) :
    ItOk R PT P H (IteX t R.K a) (ds.zipIdx.map fun p => .tup [.int p.2, p.1]) := by
  intro R2 H2 hr e
  have hq : SqX t R.K H2 a xs := by have := SqAt.on h hr e; rw [hr.K] at this; exact this
  have r2 := r.ext hr hp e
  refine ⟨⟨xs, hq, ?_⟩, fun i d hd => ?_⟩
  · simp; exact r.length
  · simp only [List.getElem?_map, Option.map_eq_some_iff, List.getElem?_zipIdx] at hd
    obtain ⟨⟨d1, d2⟩, hz, rfl⟩ := hd
    obtain ⟨d3, z1, z2⟩ := hz
    simp only [Nat.zero_add, Prod.mk.injEq] at z2
    obtain ⟨rfl, rfl⟩ := z2
    obtain ⟨x, hx, rx⟩ := r2.get z1
    refine ⟨⟨xs, x, hq, hx⟩, fun v H' ⟨T, x', ev, hT, eH, f1⟩ => ?_⟩
    have q1 := f1 xs hq
    rw [hx] at q1
    cases q1
    subst eH ev
    refine ⟨.inr ⟨T, _, hT, rfl⟩, ?_⟩
    simp only [Rep]
    exact ⟨T, _, rfl, upd_same, .cons (by simp only [Rep]) (.cons (rx.updT hT) .nil)⟩
theorem ItOk.rng {R : Rx} {PT P : Addr → Prop} {H : Hp} {lo : Int} {n : Nat} : ItOk R PT P H (Itr lo n) ((List.range n).map fun k : Nat => .int (lo + (k : Int))) := by
  intro R2 H2 hr e
  refine ⟨by show n ≤ _; simp, fun i d hd => ?_⟩
  simp only [List.getElem?_map, Option.map_eq_some_iff] at hd
  obtain ⟨k, hk, rfl⟩ := hd
  rw [List.getElem?_eq_some_iff] at hk
  obtain ⟨h1, h2⟩ := hk
  simp at h1 h2
  subst h2
  refine ⟨h1, fun v H' ⟨e1, e2⟩ => ⟨.inl e1, ?_⟩⟩
  subst e2
  simp only [Rep]
/-- a sequence that is looked at: its place -/
theorem RepB.seq {X : Cx} {bx : Option (Addr × Addr)} {P : Addr → Prop} {H : Hp} {d : D} {v : V} {ds : List D} (h : RepB (RX X bx) P H d v) (e : seqD d = some ds) :
    ∃ t a xs, v = .ref a ∧ SqAt (RX X bx) (NB (RX X bx)) H t a xs ∧ Reps (RX X bx) P H ds xs := by
  cases d with
  | tup es =>
    simp only [seqD, Option.some.injEq] at e; subst e
    simp only [RepB, Rep] at h
    obtain ⟨a, xs, e1, h1, h2⟩ := h
    exact ⟨true, a, xs, e1, .inl (.inl h1), h2⟩
  | lst es =>
    simp only [seqD, Option.some.injEq] at e; subst e
    obtain ⟨a, xs, e1, h1, h2⟩ := h
    exact ⟨false, a, xs, e1, h1, h2⟩
  | _ => simp [seqD] at e
theorem Rep.seq {X : Cx} {bx : Option (Addr × Addr)} {P : Addr → Prop} {H : Hp} {d : D} {v : V} {ds : List D} (h : Rep (RX X bx) P H d v) (e : seqD d = some ds) :
    ∃ t a xs, v = .ref a ∧ SqAt (RX X bx) P H t a xs ∧ Reps (RX X bx) P H ds xs := by
  cases d with
  | tup es =>
    simp only [seqD, Option.some.injEq] at e; subst e
    simp only [Rep] at h
    obtain ⟨a, xs, e1, h1, h2⟩ := h
    exact ⟨true, a, xs, e1, .inl (.inl h1), h2⟩
  | lst es =>
    simp only [seqD, Option.some.injEq] at e; subst e
    simp only [Rep] at h
    obtain ⟨a, xs, e1, h1, h2⟩ := h
    exact ⟨false, a, xs, e1, h1, h2⟩
  | _ => simp [seqD] at e
section
variable {X : Cx} {cl : Calls}
theorem si_it {tg : Expr} {c : CE} {e : Expr} (h : SE X cl c e) : SI X cl tg (.it c) e := by
  refine ⟨PI.imp (pi_seq h.lk) fun σ H Q q => ?_, PI.imp (pi_seq h.full) fun σ H Q q => ?_⟩
  · obtain ⟨bx, P, env, bs, ds, bs', h1, h2, h3⟩ := q
    simp only [evI, bind_def, bnd_some, lift_some] at h2
    obtain ⟨x, b1, ex, eg, rfl⟩ := h2
    refine ⟨bx, P, env, bs, x, _, h1, ex, fun v H1 bx1 e1 r1 => ?_⟩
    obtain ⟨t, a, xs, rfl, hs, hr⟩ := r1.seq eg
    refine ⟨a, rfl, ?_⟩
    cases t with
    | true => exact .inr ⟨⟨xs, hs⟩, h3 _ _ _ e1 (ItOk.tup (fun a p => p.2) hs hr)⟩
    | false => exact .inl ⟨⟨xs, LstAt.sq (R := RX X bx1) hs⟩, h3 _ _ _ e1 (ItOk.list (fun a p => p.2) hs hr)⟩
  · obtain ⟨bx, P, env, bs, ds, bs', h1, h2, h3⟩ := q
    simp only [evI, bind_def, bnd_some, lift_some] at h2
    obtain ⟨x, b1, ex, eg, rfl⟩ := h2
    refine ⟨bx, P, env, bs, x, _, h1, ex, fun v H1 bx1 e1 r1 => ?_⟩
    obtain ⟨t, a, xs, rfl, hs, hr⟩ := r1.seq eg
    refine ⟨a, rfl, ?_⟩
    cases t with
    | true => exact .inr ⟨⟨xs, hs⟩, h3 _ _ _ e1 (ItOk.tup (fun a p => p) hs hr)⟩
    | false => exact .inl ⟨⟨xs, LstAt.sq (R := RX X bx1) hs⟩, h3 _ _ _ e1 (ItOk.list (fun a p => p) hs hr)⟩
theorem si_rng1 {tg : Expr} {c : CE} {e : Expr} {p pos : Pos} (hg : Gl X "range") (hm : X.mg "range" = none) (hn : ns e = true) (h : SA X cl (.cons c .nil) [e]) : SI X cl tg (.rng (.cons c .nil)) (.Call (.Name "range" p) [e] [] pos) := by
  have key := pi_range1 (tg := tg) (p := p) (pos := pos) hg hm h.lk (star_ns hn)
  have go : ∀ {PT : Option (Addr × Addr) → (Addr → Prop) → Hp → Addr → Prop} σ H (R : It → Hp → Prop) bx P env bs ds bs', ERel (RX X bx) P (sks (.cons c .nil)) H σ env bs → evI cl (.rng (.cons c .nil)) env bs = some (ds, bs') →
      (∀ J H' bx', EPost (RX X bx) (RX X bx') H H' bs' → ItOk (RX X bx') (PT bx' P H) (Pn (RX X bx') P H) H' J ds → R J H') → iRng1 (tLs X (sks (.cons c .nil)) (evs cl (.cons c .nil))) σ H R := by
    intro PT σ H R bx P env bs ds bs' h1 h2 h3
    simp only [evI, bind_def, bnd_some, lift_some] at h2
    obtain ⟨x, b1, ex, eg, rfl⟩ := h2
    refine ⟨bx, P, env, bs, x, _, h1, ex, fun v H1 bx1 e1 r1 => ?_⟩
    unfold rngD at eg
    split at eg
    · rename_i j
      obtain ⟨v1, r, e2, r2, e3⟩ := r1
      simp only [RepB, Rep] at r2
      simp only [RepBs] at e3
      subst e2 r2 e3
      split at eg
      · rename_i hj
        simp only [Option.some.injEq] at eg
        subst eg
        exact ⟨j, rfl, hj.1, hj.2, h3 _ _ _ e1 (by have := ItOk.rng (R := RX X bx1) (PT := PT bx1 P H) (P := Pn (RX X bx1) P H) (H := H1) (lo := 0) (n := j.toNat); simpa using this)⟩
      · cases eg
    · rename_i i j
      exfalso
      simp only [evs, bind_def, pure_def, bnd_some, ret_some] at ex
      obtain ⟨_, _, _, _, _, ⟨rfl, _⟩, ex, _⟩ := ex
      cases ex
    · cases eg
  exact ⟨PI.imp key fun σ H Q ⟨bx, P, env, bs, ds, bs', h1, h2, h3⟩ => go (PT := fun bx _ _ => NB (RX X bx)) σ H Q bx P env bs ds bs' h1 h2 h3,
    PI.imp key fun σ H Q ⟨bx, P, env, bs, ds, bs', h1, h2, h3⟩ => go (PT := fun bx P H => Pn (RX X bx) P H) σ H Q bx P env bs ds bs' h1 h2 h3⟩
theorem si_rng2 {tg : Expr} {c c2 : CE} {e e2 : Expr} {p pos : Pos} (hg : Gl X "range") (hm : X.mg "range" = none) (hn : ns e = true) (hn2 : ns e2 = true) (h : SA X cl (.cons c (.cons c2 .nil)) [e, e2]) : SI X cl tg (.rng (.cons c (.cons c2 .nil))) (.Call (.Name "range" p) [e, e2] [] pos) := by
  have key := pi_range2 (tg := tg) (p := p) (pos := pos) hg hm h.lk (by rw [star_ns hn, star_ns hn2]; rfl) (star_ns hn2)
  have go : ∀ {PT : Option (Addr × Addr) → (Addr → Prop) → Hp → Addr → Prop} σ H (R : It → Hp → Prop) bx P env bs ds bs', ERel (RX X bx) P (sks (.cons c (.cons c2 .nil))) H σ env bs → evI cl (.rng (.cons c (.cons c2 .nil))) env bs = some (ds, bs') →
      (∀ J H' bx', EPost (RX X bx) (RX X bx') H H' bs' → ItOk (RX X bx') (PT bx' P H) (Pn (RX X bx') P H) H' J ds → R J H') → iRng2 (tLs X (sks (.cons c (.cons c2 .nil))) (evs cl (.cons c (.cons c2 .nil)))) σ H R := by
    intro PT σ H R bx P env bs ds bs' h1 h2 h3
    simp only [evI, bind_def, bnd_some, lift_some] at h2
    obtain ⟨x, b1, ex, eg, rfl⟩ := h2
    refine ⟨bx, P, env, bs, x, _, h1, ex, fun v H1 bx1 e1 r1 => ?_⟩
    unfold rngD at eg
    split at eg
    · exfalso
      simp only [evs, bind_def, pure_def, bnd_some, ret_some] at ex
      obtain ⟨_, _, _, _, _, ⟨_, _, _, _, _, _, rfl, _⟩, ex, _⟩ := ex
      cases ex
    · rename_i i j
      obtain ⟨v1, r, e2, r2, v2, r3, e3, r4, e5⟩ := r1
      simp only [RepB, Rep] at r2 r4
      simp only [RepBs] at e5
      subst e2 r2 e3 r4 e5
      split at eg
      · rename_i hj
        simp only [Option.some.injEq] at eg
        subst eg
        exact ⟨i, j, rfl, hj, h3 _ _ _ e1 ItOk.rng⟩
      · cases eg
    · cases eg
  exact ⟨PI.imp key fun σ H Q ⟨bx, P, env, bs, ds, bs', h1, h2, h3⟩ => go (PT := fun bx _ _ => NB (RX X bx)) σ H Q bx P env bs ds bs' h1 h2 h3,
    PI.imp key fun σ H Q ⟨bx, P, env, bs, ds, bs', h1, h2, h3⟩ => go (PT := fun bx P H => Pn (RX X bx) P H) σ H Q bx P env bs ds bs' h1 h2 h3⟩
theorem seqD_of_zip {x y : D} {ds : List D} (h : zipD x y = some ds) : ∃ a b, seqD x = some a ∧ seqD y = some b ∧ ds = (a.zip b).map fun p => .tup [p.1, p.2] := by
  unfold zipD at h
  split at h
  · rename_i a b e1 e2
    simp only [Option.some.injEq] at h
    exact ⟨a, b, e1, e2, h.symm⟩
  · cases h
theorem si_zip {a b : CE} {e e2 : Expr} {p pos tpos : Pos} {elts : List Expr} {kk : Nat} (hg : Gl X "zip") (hm : X.mg "zip" = none) (hn : ns e = true) (hn2 : ns e2 = true) (ha : SE X cl a e) (hb : SE X cl b e2) :
    SI X cl (.Tuple elts kk tpos) (.zip a b) (.Call (.Name "zip" p) [e, e2] [] pos) := by
  have ha2 := sa_cons hn ha (sa_cons hn2 hb sa_nil)
  have s1 : sks (.cons a (.cons b .nil)) = skI (.zip a b) := by simp only [sks, skI, List.append_nil]
  have s2 : skAs (.cons a (.cons b .nil)) = skIA (.zip a b) := by simp only [skAs, skIA, List.append_nil]
  have evz : ∀ env bs ds bs', evI cl (.zip a b) env bs = some (ds, bs') → ∃ x y, evs cl (.cons a (.cons b .nil)) env bs = some ([x, y], bs') ∧ zipD x y = some ds := fun env bs ds bs' h => by
    simp only [evI, bind_def, bnd_some, lift_some] at h
    obtain ⟨x, b1, ex, y, b2, ey, ez, rfl⟩ := h
    exact ⟨x, y, by simp only [evs, bind_def, pure_def, bnd_some, ret_some]; exact ⟨x, b1, ex, [y], _, ⟨y, _, ey, [], _, ⟨rfl, rfl⟩, rfl, rfl⟩, rfl, rfl⟩, ez⟩
  refine ⟨PI.imp (pi_zipX hg hm ha2.lk (star_ns hn) (back_ns (by simp [hn2]))) fun σ H Q q => ?_, PI.imp (pi_zipX hg hm ha2.full (star_ns hn) (back_ns (by simp [hn2]))) fun σ H Q q => ?_⟩
  · obtain ⟨bx, P, env, bs, ds, bs', h1, h2, h3⟩ := q
    obtain ⟨x, y, ex, ez⟩ := evz _ _ _ _ h2
    obtain ⟨xs, ys, q1, q2, rfl⟩ := seqD_of_zip ez
    refine ⟨bx, P, env, bs, _, _, by rw [s1]; exact h1, ex, fun v H1 bx1 e1 r1 => ?_⟩
    obtain ⟨v1, r, e2, r2, v2, r3, e3, r4, e5⟩ := r1
    simp only [RepBs] at e5
    subst e2 e3 e5
    obtain ⟨t, a1, xv, rfl, hs, hr⟩ := r2.seq q1
    obtain ⟨u, a2, yv, rfl, hs2, hr2⟩ := r4.seq q2
    refine ⟨t, u, a1, a2, xv, yv, rfl, hs.on (.refl _) (.refl _ _), hs2.on (.refl _) (.refl _ _), h3 _ _ _ e1 (ItOk.zip (fun a p => p.2) hs hs2 hr hr2)⟩
  · obtain ⟨bx, P, env, bs, ds, bs', h1, h2, h3⟩ := q
    obtain ⟨x, y, ex, ez⟩ := evz _ _ _ _ h2
    obtain ⟨xs, ys, q1, q2, rfl⟩ := seqD_of_zip ez
    refine ⟨bx, P, env, bs, _, _, by rw [s2]; exact h1, ex, fun v H1 bx1 e1 r1 => ?_⟩
    obtain ⟨v1, r, rfl, r2, r3⟩ := r1.inv
    obtain ⟨v2, r', rfl, r4, r5⟩ := r3.inv
    have e5 := r5.invNil
    subst e5
    obtain ⟨t, a1, xv, rfl, hs, hr⟩ := r2.seq q1
    obtain ⟨u, a2, yv, rfl, hs2, hr2⟩ := r4.seq q2
    refine ⟨t, u, a1, a2, xv, yv, rfl, hs.on (.refl _) (.refl _ _), hs2.on (.refl _) (.refl _ _), h3 _ _ _ e1 (ItOk.zip (fun a p => p) hs hs2 hr hr2)⟩
theorem si_enum {a : CE} {e : Expr} {p pos tpos : Pos} {elts : List Expr} {kk : Nat} (hg : Gl X "enumerate") (hm : X.mg "enumerate" = none) (hn : ns e = true) (ha : SE X cl a e) :
    SI X cl (.Tuple elts kk tpos) (.enum a) (.Call (.Name "enumerate" p) [e] [] pos) := by
  have ha2 := sa_cons hn ha sa_nil
  have s1 : sks (.cons a .nil) = skI (.enum a) := by simp only [sks, skI, List.append_nil]
  have s2 : skAs (.cons a .nil) = skIA (.enum a) := by simp only [skAs, skIA, List.append_nil]
  have evz : ∀ env bs ds bs', evI cl (.enum a) env bs = some (ds, bs') → ∃ x, evs cl (.cons a .nil) env bs = some ([x], bs') ∧ enumD x = some ds := fun env bs ds bs' h => by
    simp only [evI, bind_def, bnd_some, lift_some] at h
    obtain ⟨x, b1, ex, ez, rfl⟩ := h
    exact ⟨x, by simp only [evs, bind_def, pure_def, bnd_some, ret_some]; exact ⟨x, _, ex, [], _, ⟨rfl, rfl⟩, rfl, rfl⟩, ez⟩
  have en : ∀ {x ds}, enumD x = some ds → ∃ a, seqD x = some a ∧ ds = a.zipIdx.map fun p => .tup [.int p.2, p.1] := fun {x ds} h => by
    unfold enumD at h
    split at h
    · simp only [Option.some.injEq] at h; exact ⟨_, rfl, h.symm⟩
    · simp only [Option.some.injEq] at h; exact ⟨_, rfl, h.symm⟩
    · cases h
  refine ⟨PI.imp (pi_enumX hg hm ha2.lk (star_ns hn)) fun σ H Q q => ?_, PI.imp (pi_enumX hg hm ha2.full (star_ns hn)) fun σ H Q q => ?_⟩
  · obtain ⟨bx, P, env, bs, ds, bs', h1, h2, h3⟩ := q
    obtain ⟨x, ex, ez⟩ := evz _ _ _ _ h2
    obtain ⟨xs, es, rfl⟩ := en ez
    refine ⟨bx, P, env, bs, _, _, by rw [s1]; exact h1, ex, fun v H1 bx1 e1 r1 => ?_⟩
    obtain ⟨v1, r, e2, r2, e5⟩ := r1
    simp only [RepBs] at e5
    subst e2 e5
    obtain ⟨t, a1, xv, rfl, hs, hr⟩ := r2.seq es
    exact ⟨t, a1, xv, rfl, hs.on (.refl _) (.refl _ _), h3 _ _ _ e1 (ItOk.enum (fun a p => p.2) hs hr)⟩
  · obtain ⟨bx, P, env, bs, ds, bs', h1, h2, h3⟩ := q
    obtain ⟨x, ex, ez⟩ := evz _ _ _ _ h2
    obtain ⟨xs, es, rfl⟩ := en ez
    refine ⟨bx, P, env, bs, _, _, by rw [s2]; exact h1, ex, fun v H1 bx1 e1 r1 => ?_⟩
    obtain ⟨v1, r, rfl, r2, r3⟩ := r1.inv
    have e5 := r3.invNil
    subst e5
    obtain ⟨t, a1, xv, rfl, hs, hr⟩ := r2.seq es
    exact ⟨t, a1, xv, rfl, hs.on (.refl _) (.refl _ _), h3 _ _ _ e1 (ItOk.enum (fun a p => p) hs hr)⟩
end
end En

/-! The engine, part i: targets, comprehensions. -/
namespace En
open PySem PySem.Spec PyProof.Rows L2

mutual
def gsl : CG → List Nat
  | .nm i => [i]
  | .tp gs => gsls gs
def gsls : List CG → List Nat
  | [] => []
  | g :: gs => gsl g ++ gsls gs
end
/-- the slots S have got values, the others stand -/
structure Bnd (R : Rx) (P : Addr → Prop) (H : Hp) (S : List Nat) (σ σ1 : L2.St) (env env1 : Env) : Prop where
  ls : σ1.length = σ.length
  le : env1.length = env.length
  out : ∀ (i : Nat), i ∉ S → σ1[i]? = σ[i]? ∧ env1[i]? = env[i]?
  slot : ∀ (i : Nat) (d : D) (f : Bool), env1[i]? = some (some (d, f)) → (env[i]? = some (some (d, f)) ∧ σ1[i]? = σ[i]?) ∨ (f = false ∧ ∃ v, σ1[i]? = some (some v) ∧ Rep R P H d v)
theorem Bnd.refl {R : Rx} {P : Addr → Prop} {H : Hp} {S : List Nat} {σ : L2.St} {env : Env} : Bnd R P H S σ σ env env := ⟨rfl, rfl, fun _ _ => ⟨rfl, rfl⟩, fun _ _ _ e => .inl ⟨e, rfl⟩⟩
theorem Bnd.trans {R : Rx} {P : Addr → Prop} {H : Hp} {S S' : List Nat} {σ σ1 σ2 : L2.St} {env env1 env2 : Env} (a : Bnd R P H S σ σ1 env env1) (b : Bnd R P H S' σ1 σ2 env1 env2) : Bnd R P H (S ++ S') σ σ2 env env2 := by
  refine ⟨b.ls.trans a.ls, b.le.trans a.le, fun i n => ?_, fun i d f e => ?_⟩
  · simp only [List.mem_append, not_or] at n
    exact ⟨(b.out i n.2).1.trans (a.out i n.1).1, (b.out i n.2).2.trans (a.out i n.1).2⟩
  · rcases b.slot i d f e with ⟨e1, e2⟩ | h
    · rcases a.slot i d f e1 with ⟨e3, e4⟩ | ⟨h1, v, h2, h3⟩
      · exact .inl ⟨e3, e2.trans e4⟩
      · exact .inr ⟨h1, v, e2.trans h2, h3⟩
    · exact .inr h
theorem Bnd.erel {R : Rx} {P : Addr → Prop} {H : Hp} {S T : List Nat} {σ σ1 : L2.St} {env env1 : Env} {bs : BS} (b : Bnd R P H S σ σ1 env env1) (h : ERel R P T H σ env bs) : ERel R P T H σ1 env1 bs := by
  refine ⟨fun i d f e => ?_, h.box, h.nob, by rw [b.ls, b.le]; exact h.len⟩
  rcases b.slot i d f e with ⟨e1, e2⟩ | ⟨rfl, v, e1, e2⟩
  · rw [e2]; exact h.slot i d f e1
  · exact ⟨v, e1, fun _ => e2, fun z => by cases z⟩
theorem Bnd.one {R : Rx} {P : Addr → Prop} {H : Hp} {σ : L2.St} {env : Env} {i : Nat} {d : D} {v : V} (hi : i < env.length) (hl : env.length ≤ σ.length) (r : Rep R P H d v) : Bnd R P H [i] σ (σ.set i (some v)) env (env.set i (some (d, false))) := by
  refine ⟨by simp, by simp, fun j n => ?_, fun j d' f e => ?_⟩
  · have n' : i ≠ j := fun z => n (by simp [z])
    exact ⟨List.getElem?_set_ne n', List.getElem?_set_ne n'⟩
  · by_cases n : i = j
    · subst n
      rw [List.getElem?_set_self hi] at e
      cases e
      exact .inr ⟨rfl, v, List.getElem?_set_self (Nat.lt_of_lt_of_le hi hl), r⟩
    · rw [List.getElem?_set_ne n] at e
      exact .inl ⟨e, List.getElem?_set_ne n⟩
/-- what a target asks -/
def tGd (X : Cx) (g : CG) : TG := fun v σ H Q => ∃ bx P d env env1, env.length ≤ σ.length ∧ Rep (RX X bx) P H d v ∧ bindG g d env = some env1 ∧ ∀ σ1, Bnd (RX X bx) P H (gsl g) σ σ1 env env1 → Q σ1 H
def tGds (X : Cx) (gs : List CG) : TGs := fun vs σ H Q => ∃ bx P ds env env1, env.length ≤ σ.length ∧ Reps (RX X bx) P H ds vs ∧ bindGs gs ds env = some env1 ∧ ∀ σ1, Bnd (RX X bx) P H (gsls gs) σ σ1 env env1 → Q σ1 H
theorem PG.imp {X : Cx} {e : Expr} {t t' : TG} (h : PG X e t) (f : ∀ v σ H Q, t' v σ H Q → t v σ H Q) : PG X e t' := ⟨fun pins s σ H v u Q I r q => h.run pins s σ H v u Q I r (f v σ H Q q)⟩
theorem PGs.imp {X : Cx} {e : List Expr} {t t' : TGs} (h : PGs X e t) (f : ∀ v σ H Q, t' v σ H Q → t v σ H Q) : PGs X e t' := ⟨fun pins s σ H v u Q I r q => h.run pins s σ H v u Q I r (f v σ H Q q)⟩
section
variable {X : Cx} {cl : Calls}
theorem sg_nm {i : Nat} {x : Str} {pos : Pos} (hN : X.N.Nodup) (hi : X.N[i]? = some x) (hx : Loc X.env.scope x) (hf : X.fn x = true ∨ X.env.scope.names.lookup x = some .local) : PG X (.Name x pos) (tGd X (.nm i)) := by
  refine PG.imp (pg_name hN hi hx hf) fun v σ H Q q => ?_
  obtain ⟨bx, P, d, env, env1, hl, r, hb, k⟩ := q
  simp only [bindG] at hb
  split at hb
  · rename_i hi
    simp only [Option.some.injEq] at hb
    subst hb
    exact k _ (Bnd.one hi hl r)
  · cases hb
theorem sgs_nil : PGs X [] (tGds X []) := by
  refine PGs.imp pgs_nil fun v σ H Q q => ?_
  obtain ⟨bx, P, d, env, env1, hl, r, hb, k⟩ := q
  simp only [bindGs] at hb
  split at hb
  · simp only [Option.some.injEq] at hb
    subst hb
    exact ⟨r.invNil, k _ .refl⟩
  · cases hb
theorem asg_ns {e : Expr} {es : List Expr} {env : PySem.Env} (h : ns e = true) : assignEach (e :: es) env = (false, assign e env) :: assignEach es env := by
  cases e <;> first | rfl | (exact absurd (show false = true from h) Bool.false_ne_true)
theorem sgs_cons {g : CG} {gs : List CG} {e : Expr} {es : List Expr} (hn : ns e = true) (h1 : PG X e (tGd X g)) (h2 : PGs X es (tGds X gs)) : PGs X (e :: es) (tGds X (g :: gs)) := by
  refine PGs.imp (pgs_cons h1 h2 (by rw [asg_ns hn]; rfl)) fun v σ H Q q => ?_
  obtain ⟨bx, P, ds, env, env1, hl, r, hb, k⟩ := q
  cases ds with
  | nil => simp [bindGs] at hb
  | cons d ds =>
    obtain ⟨x, rv, rfl, rx, rr⟩ := r.inv
    simp only [bindGs] at hb
    cases e1 : bindG g d env with
    | none => rw [e1] at hb; cases hb
    | some env2 =>
      rw [e1] at hb
      refine ⟨x, rv, rfl, bx, P, d, env, env2, hl, rx, e1, fun σ1 b1 => ?_⟩
      refine ⟨bx, P, ds, env2, env1, by rw [b1.le, b1.ls]; exact hl, rr, hb, fun σ2 b2 => k σ2 ?_⟩
      simp only [gsls]
      exact b1.trans b2
theorem bindGs_len : ∀ {gs : List CG} {ds : List D} {env env1 : Env}, bindGs gs ds env = some env1 → ds.length = gs.length
  | [], [], _, _, _ => rfl
  | [], _ :: _, _, _, h => by simp [bindGs] at h
  | _ :: _, [], _, _, h => by simp [bindGs] at h
  | g :: gs, d :: ds, env, env1, h => by
    simp only [bindGs] at h
    cases e1 : bindG g d env with
    | none => rw [e1] at h; cases h
    | some env2 => rw [e1] at h; simp [bindGs_len h]
theorem asg_len {es : List Expr} {env : PySem.Env} (h : es.all ns = true) : (assignEach es env).length = es.length ∧ (assignEach es env).findIdx? (·.1) = none := by
  induction es with
  | nil => exact ⟨rfl, rfl⟩
  | cons e es ih =>
    simp only [List.all_cons, Bool.and_eq_true] at h
    rw [asg_ns h.1]
    obtain ⟨h1, h2⟩ := ih h.2
    refine ⟨by simp [h1], ?_⟩
    rw [List.findIdx?_cons]
    simp [h2]
theorem PG.or {e : Expr} {t t' : TG} (h : PG X e t) (h' : PG X e t') : PG X e (fun v σ H Q => t v σ H Q ∨ t' v σ H Q) :=
  ⟨fun pins s σ H v u Q I r q => q.elim (h.run pins s σ H v u Q I r) (h'.run pins s σ H v u Q I r)⟩
theorem sg_tp {gs : List CG} {es : List Expr} {k : Nat} {pos : Pos} (hc : X.calm = true) (hl : gs.length = es.length) (hn : es.all ns = true) (h : PGs X es (tGds X gs)) : PG X (.Tuple es k pos) (tGd X (.tp gs)) := by
  refine PG.imp (PG.or (pg_tup hc h (asg_len hn).1 (asg_len hn).2) (pg_lst hc h (asg_len hn).1 (asg_len hn).2)) fun v σ H Q q => ?_
  obtain ⟨bx, P, d, env, env1, hle, r, hb, kk⟩ := q
  simp only [bindG] at hb
  split at hb
  · rename_i ds
    simp only [Rep] at r
    obtain ⟨a, xs, rfl, hs, hr⟩ := r
    refine .inl ⟨a, xs, rfl, .inl (.inl hs), by rw [← hr.length, bindGs_len hb, hl], bx, P, ds, env, env1, hle, hr, hb, fun σ1 b => kk σ1 ?_⟩
    simp only [gsl]
    exact b
  · rename_i ds
    simp only [Rep] at r
    obtain ⟨a, xs, rfl, hs, hr⟩ := r
    refine .inr ⟨a, xs, rfl, hs.sq, by rw [← hr.length, bindGs_len hb, hl], bx, P, ds, env, env1, hle, hr, hb, fun σ1 b => kk σ1 ?_⟩
    simp only [gsl]
    exact b
  · cases hb
/-! ### comprehensions -/
structure STs (X : Cx) (cl : Calls) (cs : CEs) (es : List Expr) : Prop where
  run : PTs X es (tTr X (sks cs) (tvs cl cs))
theorem PTs.imp {X : Cx} {e : List Expr} {t t' : TT} (h : PTs X e t) (f : ∀ σ H Q, t' σ H Q → t σ H Q) : PTs X e t' := ⟨fun pins s σ H Q I q => h.run pins s σ H Q I (f σ H Q q)⟩
theorem st_nil : STs X cl .nil [] := by
  refine ⟨PTs.imp pts_nil fun σ H Q q => ?_⟩
  obtain ⟨bx, P, env, bs, d, bs', h1, h2, h3⟩ := q
  simp only [tvs, pure_def, ret_some] at h2
  obtain ⟨rfl, rfl⟩ := h2
  exact h3 H bx (.refl h1.box)
theorem st_one {c : CE} {e : Expr} (h : SE X cl c e) : STs X cl (.cons c .nil) [e] := by
  refine ⟨PTs.imp (pts_one h.ts) fun σ H Q q => ?_⟩
  obtain ⟨bx, P, env, bs, d, bs', h1, h2, h3⟩ := q
  simp only [tvs] at h2
  exact ⟨bx, P, env, bs, d, bs', h1.weak fun i m => by simp only [sks, List.append_nil]; exact m, h2, h3⟩
theorem wipeE_length (env : Env) : ∀ vs : List Nat, (wipeE env vs).length = env.length
  | [] => rfl
  | v :: vs => by unfold wipeE; rw [List.length_set, wipeE_length env vs]
theorem wipeE_some {env : Env} {i : Nat} {x : D × Bool} : ∀ {vs : List Nat}, (wipeE env vs)[i]? = some (some x) → env[i]? = some (some x) ∧ i ∉ vs
  | [], h => ⟨h, by simp⟩
  | v :: vs, h => by
    unfold wipeE at h
    by_cases hi : v = i
    · subst hi
      by_cases hv : v < (wipeE env vs).length
      · rw [List.getElem?_set_self hv] at h; cases h
      · rw [List.getElem?_eq_none (by simpa using hv)] at h; cases h
    · rw [List.getElem?_set_ne hi] at h
      obtain ⟨h1, h2⟩ := wipeE_some h
      exact ⟨h1, by simp only [List.mem_cons, not_or]; exact ⟨fun e => hi e.symm, h2⟩⟩
theorem wipe_in {σ : L2.St} {i : Nat} : ∀ {vs : List Nat}, i ∈ vs → (wipe σ vs)[i]? = (σ[i]?).map fun _ => none
  | v :: vs, h => by
    unfold wipe
    by_cases e : v = i
    · subst e
      by_cases hv : v < (wipe σ vs).length
      · rw [List.getElem?_set_self hv]
        rw [wipe_length] at hv
        rw [List.getElem?_eq_getElem hv]; rfl
      · rw [List.getElem?_eq_none (by simpa using hv)]
        rw [wipe_length] at hv
        rw [List.getElem?_eq_none (by simpa using hv)]; rfl
    · rw [List.getElem?_set_ne e]
      exact wipe_in (by
        rcases List.mem_cons.mp h with z | z
        · exact absurd z.symm e
        · exact z)
theorem wipe_eq {σ σ2 : L2.St} {own S : List Nat} (hl : σ2.length = (wipe σ own).length) (hS : ∀ i ∈ S, i ∈ own) (h : ∀ (i : Nat), i ∉ S → σ2[i]? = (wipe σ own)[i]?) : wipe σ2 own = wipe σ own := by
  apply List.ext_getElem?
  intro i
  by_cases m : i ∈ own
  · rw [wipe_in m, wipe_in m]
    rw [wipe_length] at hl
    by_cases lt : i < σ.length
    · rw [List.getElem?_eq_getElem lt, List.getElem?_eq_getElem (by rw [hl]; exact lt)]; rfl
    · rw [List.getElem?_eq_none (by rw [hl]; exact Nat.le_of_not_lt lt), List.getElem?_eq_none (Nat.le_of_not_lt lt)]
  · rw [wipe_out m]
    exact h i fun z => m (hS i z)
theorem ERel.wipe {R : Rx} {P : Addr → Prop} {S : List Nat} {H : Hp} {σ : L2.St} {env : Env} {bs : BS} (h : ERel R P S H σ env bs) (own : List Nat) : ERel R P S H (L2.wipe σ own) (wipeE env own) bs := by
  refine ⟨fun i d f e => ?_, h.box, h.nob, by rw [wipeE_length, wipe_length]; exact h.len⟩
  obtain ⟨e1, e2⟩ := wipeE_some e
  obtain ⟨v, e3, r⟩ := h.slot i d f e1
  exact ⟨v, by rw [wipe_out e2]; exact e3, r⟩
/-- our own new list is written -/
theorem EPost.write {R R' : Rx} {H H' : Hp} {b : BS} {p : Addr} {o : HO} (x : EPost R R' H H' b) (hp : H p = none) (nb : ¬InBox R' p) : EPost R R' H (upd H' p o) b := by
  refine ⟨x.le, fun a u e n => by rw [upd_ne (fun z => by subst z; rw [hp] at e; cases e)]; exact x.keep a u e n, x.box.same fun a i => ?_, x.bxn⟩
  rw [upd_ne (fun z => by subst z; exact nb i)]
theorem Reps.write {R : Rx} {P : Addr → Prop} {H : Hp} {p : Addr} {xs ys : List V} {ds : List D} {vs : List V} (hp : H p = some (.lst xs)) (np : ∀ a, P a → a ≠ p) (h : Reps R P H ds vs) : Reps R P (upd H p (.lst ys)) ds vs :=
  Reps.mono (.refl R) (fun _ p => p) (fun a o q c => by
    rw [upd_ne (fun z => ?_)]
    · exact q
    · subst z
      rcases c with c | ⟨zs, rfl⟩ | ⟨ob, u, rfl⟩
      · exact np a c rfl
      · rw [hp] at q; cases q
      · rw [hp] at q; cases q) _ _ h
theorem Rep.write {R : Rx} {P : Addr → Prop} {H : Hp} {p : Addr} {xs ys : List V} {d : D} {v : V} (hp : H p = some (.lst xs)) (np : ∀ a, P a → a ≠ p) (h : Rep R P H d v) : Rep R P (upd H p (.lst ys)) d v :=
  Rep.mono (.refl R) (fun _ p => p) (fun a o q c => by
    rw [upd_ne (fun z => ?_)]
    · exact q
    · subst z
      rcases c with c | ⟨zs, rfl⟩ | ⟨ob, u, rfl⟩
      · exact np a c rfl
      · rw [hp] at q; cases q
      · rw [hp] at q; cases q) _ _ h
def lcF (cl : Calls) (g : CG) (ifs : CEs) (elt : CE) (own : List Nat) (env : Env) (d : D) : M (Option D) := match bindG g d (wipeE env own) with
  | none => M.lift none
  | some env1 => do
    let ok ← tvs cl ifs env1
    if ok then do
      let x ← ev cl elt env1
      pure (some x)
    else pure none
theorem ev_lc {g : CG} {it : CI} {ifs : CEs} {elt : CE} {own : List Nat} {env : Env} {b b' : BS} {d : D} (h : ev cl (.lc g it ifs elt own) env b = some (d, b')) :
    ∃ ds b1 r, evI cl it env b = some (ds, b1) ∧ lcLoop (lcF cl g ifs elt own env) ds b1 = some (r, b') ∧ r.length ≤ sizeLine ∧ d = .lst r := by
  simp only [ev, bind_def, bnd_some] at h
  obtain ⟨ds, b1, e1, r, b2, e2, h⟩ := h
  split at h
  · rename_i hz
    obtain ⟨rfl, rfl⟩ := ret_some.mp h
    exact ⟨ds, b1, r, e1, e2, hz, rfl⟩
  · simp [lift_some] at h
theorem lcLoop_cons {f : D → M (Option D)} {d : D} {ds : List D} {b b' : BS} {r : List D} (h : lcLoop f (d :: ds) b = some (r, b')) :
    ∃ o b1 r', f d b = some (o, b1) ∧ lcLoop f ds b1 = some (r', b') ∧ r = (match o with | some x => x :: r' | none => r') := by
  simp only [lcLoop, bind_def, pure_def, bnd_some] at h
  obtain ⟨o, b1, e1, r', b2, e2, h⟩ := h
  cases o with
  | none => simp only [ret_some] at h; obtain ⟨rfl, rfl⟩ := h; exact ⟨_, _, _, e1, e2, rfl⟩
  | some x => simp only [ret_some] at h; obtain ⟨rfl, rfl⟩ := h; exact ⟨_, _, _, e1, e2, rfl⟩
theorem tn_lc {g : CG} {it : CI} {ifs : CEs} {elt : CE} {own : List Nat} (hg : ∀ i ∈ gsl g, i ∈ own) : ∀ σ H (Q : VK), tN X (sk (.lc g it ifs elt own)) (ev cl (.lc g it ifs elt own)) σ H Q →
    tLc (tIl X (skI it) (evI cl it)) (tGd X g) (tTr X (sks ifs) (tvs cl ifs)) (tF X (skA elt) (ev cl elt)) own σ H Q := by
  intro σ H Q q
  obtain ⟨bx, P, env, bs, d, bs', h1, h2, h3⟩ := q
  obtain ⟨ds, b1, r, ei, el, hz, rfl⟩ := ev_lc h2
  simp only [sk] at h1
  refine ⟨bx, P, env, bs, ds, b1, h1.weak fun i m => List.mem_append_left _ m, ei, fun J H1 bx1 e1 iok Da hD => ?_⟩
  obtain ⟨hD0, nbD1⟩ := fresh_of e1 hD
  -- the state at a turn
  let Inv' : Nat → Hp → Prop := fun i Hx => i ≤ ds.length ∧ ∃ bxh bh acc accv rest, EPost (RX X bx1) (RX X bxh) H1 Hx bh ∧ Hx Da = some (.lst accv) ∧ ¬InBox (RX X bxh) Da ∧
    Reps (RX X bxh) (fun b => Pn (RX X bxh) (Pn (RX X bx1) P H) H1 b ∧ b ≠ Da) Hx acc accv ∧ lcLoop (lcF cl g ifs elt own env) (ds.drop i) bh = some (rest, bs') ∧ acc ++ rest = r
  refine ⟨fun i m Hx => m = ds.length - i ∧ Inv' i Hx, ⟨_, rfl, Nat.zero_le _, bx1, b1, [], [], r, EPost.new e1.box hD, upd_same, nbD1, .nil, el, rfl⟩, ?_⟩
  rintro i m Hx ⟨rfl, hi, bxh, bh, acc, accv, rest, eH, hDx, nbD, racc, hloop, hacc⟩
  have ext : Ext (NB (RX X bx1)) H1 Hx := eH.ext e1.box fun a p => p
  obtain ⟨hstop, hgo⟩ := iok (RX X bxh) Hx eH.le ext
  by_cases hlt : i < ds.length
  · refine .inr ?_
    have hd : ds[i]? = some ds[i] := List.getElem?_eq_getElem hlt
    obtain ⟨go1, yld⟩ := hgo i _ hd
    rw [List.drop_eq_getElem_cons hlt] at hloop
    obtain ⟨o, b2, r', ef, hl2, hr⟩ := lcLoop_cons hloop
    refine ⟨go1, fun H' => Inv' (i + 1) H', fun H' h => ⟨_, (show ds.length - (i + 1) < ds.length - i by omega), rfl, h⟩, fun x H' hy => ?_⟩
    obtain ⟨hH', rx⟩ := yld x H' hy
    -- the state with the item
    have e' : EPost (RX X bxh) (RX X bxh) Hx H' bh := by
      rcases hH' with rfl | ⟨T, xs, hT, rfl⟩
      · exact .refl eH.box
      · exact .new eH.box hT
    have E2 := eH.trans e'
    let P2 : Addr → Prop := fun b => Pn (RX X bxh) (Pn (RX X bx1) P H) H1 b ∧ b ≠ Da
    have hp2 : ∀ (a : Addr) (o : HO), Pn (RX X bx1) P H a → H1 a = some o → P2 a := fun a o p e => ⟨⟨.inl p, eH.notbox e p.2⟩, fun z => by subst z; rw [hD] at e; cases e⟩
    have er : ERel (RX X bxh) P2 (sks ifs ++ skA elt) H' (L2.wipe σ own) (wipeE env own) bh :=
      (((h1.weak fun i m => List.mem_append_right _ m).on e1).onP E2 hp2 fun a p => p.1.2).wipe own
    have hD' : H' Da = some (.lst accv) := by
      rcases hH' with rfl | ⟨T, xs, hT, rfl⟩
      · exact hDx
      · rw [upd_ne (fun z => by subst z; rw [hDx] at hT; cases hT)]; exact hDx
    have racc' : Reps (RX X bxh) P2 H' acc accv := Reps.mono (.refl _) (P := P2) (fun _ p => p) (e'.ext eH.box fun a p => p.1.2) _ _ racc
    have ritem : Rep (RX X bxh) P2 H' ds[i] x := Rep.mono (.refl _) (fun a ⟨p, o, e⟩ => hp2 a o p e) (.refl _ _) _ _ rx
    unfold lcF at ef
    cases eb : bindG g ds[i] (wipeE env own) with
    | none => rw [eb] at ef; simp [lift_some] at ef
    | some env1 =>
      rw [eb] at ef
      simp only [bind_def, pure_def, bnd_some] at ef
      obtain ⟨ok, b3, et, ef⟩ := ef
      refine ⟨bxh, P2, _, _, env1, by rw [wipeE_length, wipe_length]; exact h1.len, ritem, eb, fun σ1 bd => ⟨wipe_eq bd.ls hg fun i n => (bd.out i n).1, ?_⟩⟩
      have er1 := bd.erel er
      refine ⟨bxh, P2, env1, bh, ok, b3, er1.weak fun i m => List.mem_append_left _ m, et, fun H3 bx3 e3 => ?_⟩
      have hD3 : H3 Da = some (.lst accv) := e3.keep _ _ hD' nbD
      have nbD3 : ¬InBox (RX X bx3) Da := e3.notbox hD' nbD
      have hp3 : ∀ (a : Addr) (o : HO), P2 a → H' a = some o → (Pn (RX X bx3) (Pn (RX X bx1) P H) H1 a ∧ a ≠ Da) := fun a o p e => ⟨⟨p.1.1, e3.notbox e p.1.2⟩, p.2⟩
      have racc3 := Reps.onP e3 (fun a (p : P2 a) => p.1.2) hp3 racc' er1.box
      cases ok with
      | false =>
        rw [if_neg Bool.false_ne_true] at ef
        refine (iff_of_eq (if_neg Bool.false_ne_true)).mpr ?_
        obtain ⟨rfl, rfl⟩ := ret_some.mp ef
        exact ⟨hlt, bx3, _, acc, accv, rest, E2.trans e3, hD3, nbD3, racc3, by rw [hr]; exact hl2, hacc⟩
      | true =>
        rw [if_pos rfl] at ef
        refine (iff_of_eq (if_pos rfl)).mpr ?_
        simp only [bnd_some, ret_some] at ef
        obtain ⟨xd, _, ex, rfl, rfl⟩ := ef
        subst hr
        have er3 : ERel (RX X bx3) (fun a => Pn (RX X bx3) (Pn (RX X bx1) P H) H1 a ∧ a ≠ Da) (skA elt) H3 σ1 env1 b3 := (er1.weak fun i m => List.mem_append_right _ m).onP e3 hp3 fun a p => p.1.2
        refine ⟨bx3, _, env1, b3, xd, _, er3, ex, fun y H4 bx4 e4 r4 => ?_⟩
        have hD4 : H4 Da = some (.lst accv) := e4.keep _ _ hD3 nbD3
        have nbD4 : ¬InBox (RX X bx4) Da := e4.notbox hD3 nbD3
        have E4 := (E2.trans e3).trans e4
        have hlen : acc.length < sizeLine := by
          have := congrArg List.length hacc
          simp at this
          omega
        have racc4 := Reps.onP (P2 := fun a => Pn (RX X bx4) (Pn (RX X bx1) P H) H1 a ∧ a ≠ Da) e4 (fun a p => p.1.2) (fun a o p e => ⟨⟨p.1.1, e4.notbox e p.1.2⟩, p.2⟩) racc3 er3.box
        have ry : Rep (RX X bx4) (fun a => Pn (RX X bx4) (Pn (RX X bx1) P H) H1 a ∧ a ≠ Da) H4 xd y := by
          refine Rep.mono (.refl _) (fun a p => ?_) (.refl _ _) _ _ r4
          obtain ⟨p | p, n⟩ := p
          · exact ⟨⟨p.1.1, n⟩, p.2⟩
          · refine ⟨⟨.inr ?_, n⟩, fun z => by subst z; rw [hD3] at p; cases p⟩
            cases q : H1 a with
            | none => rfl
            | some o =>
              exfalso
              by_cases ib : InBox (RX X bx1) a
              · exact n (E4.le.inBox ib)
              · have z := (E2.trans e3).keep a o q ib; rw [z] at p; cases p
        refine ⟨accv, hD4, by rw [← racc4.length]; exact hlen, hlt, bx4, _, acc ++ [xd], accv ++ [y], r', E4.write hD nbD4, upd_same, nbD4, ?_, hl2, by rw [← hacc]; simp⟩
        exact Reps.write hD4 (fun a p => p.2) (racc4.append (.cons ry .nil))
  · refine .inl ?_
    have e : i = ds.length := by omega
    subst e
    rw [List.drop_length] at hloop
    simp only [lcLoop, pure_def, ret_some] at hloop
    obtain ⟨rfl, rfl⟩ := hloop
    rw [List.append_nil] at hacc
    subst hacc
    refine ⟨hstop, h3 _ _ bxh (e1.trans eH) ⟨fun _ => ⟨Da, rfl, hD0, Da, accv, rfl, hDx, nbD, ?_⟩, fun z => by cases z⟩⟩
    exact Reps.mono (.refl _) (fun a p => ⟨Pn.trans e1 eH a p.1, p.2⟩) (.refl _ _) _ _ racc
theorem se_lc {g : CG} {it : CI} {ifs : CEs} {elt : CE} {own : List (Str × Nat)} {tg iter eelt : Expr} {eifs : List Expr} {scope : Scope} {pos : Pos} (hc : X.calm = true) (hN : X.N.Nodup) (ok : BlkOk X.N X.env.scope scope own)
    (hgs : ∀ i ∈ gsl g, i ∈ own.map (·.2)) (hi : SI X cl tg it iter)
    (hg : ∀ s H C cl' fp, PG (X.blk s H scope (compEnvC scope cl' C X.env) fp) tg (tGd X g))
    (ht : ∀ s H C cl' fp, STs (X.blk s H scope (compEnvC scope cl' C X.env) fp) cl ifs eifs)
    (he : ∀ s H C cl' fp, SE (X.blk s H scope (compEnvC scope cl' C X.env) fp) cl elt eelt)
    (hs : ∀ x, foldedSetIterable iter X.env x = pure x) : SE X cl (.lc g it ifs elt (own.map (·.2))) (.ListComp eelt [⟨tg, iter, eifs, 0⟩] scope pos) := by
  refine SE.ofN (by simp only [skA, sk]) (PE.imp (pe_lc hc hN hi.lk ok hg (fun s H C cl' fp => (ht s H C cl' fp).run) (fun s H C cl' fp => (he s H C cl' fp).full) hs) (tn_lc hgs)) (fun _ => rfl)
end
end En

/-! The engine, part j: dict displays, calls of defs. -/
namespace En
open PySem PySem.Spec PyProof.Rows L2

theorem flat_keys : ∀ {ks : List D}, flatKeys ks = true → ∃ kk : List Key, ks.map keyD = kk.map some ∧ kk.Nodup
  | [], _ => ⟨[], rfl, .nil⟩
  | k :: ks, h => by
    simp only [flatKeys, Bool.and_eq_true, Bool.not_eq_true', List.any_eq_false] at h
    obtain ⟨⟨h1, h2⟩, h3⟩ := h
    obtain ⟨kk, e, nd⟩ := flat_keys h3
    obtain ⟨c, hc⟩ := Option.isSome_iff_exists.mp h1
    refine ⟨c :: kk, by rw [List.map_cons, List.map_cons, e, hc], List.nodup_cons.mpr ⟨fun m => ?_, nd⟩⟩
    have m' : some c ∈ ks.map keyD := by rw [e]; exact List.mem_map.mpr ⟨c, m, rfl⟩
    obtain ⟨k', mk, ek⟩ := List.mem_map.mp m'
    apply h2 k' mk
    cases k' with
    | int i => cases k with
      | int j => simp only [keyD, Option.some.injEq] at hc ek; rw [← hc] at ek; cases ek; simp [keyEq]
      | str j => simp only [keyD, Option.some.injEq] at hc ek; rw [← hc] at ek; cases ek
      | _ => simp [keyD] at hc
    | str i => cases k with
      | int j => simp only [keyD, Option.some.injEq] at hc ek; rw [← hc] at ek; cases ek
      | str j => simp only [keyD, Option.some.injEq] at hc ek; rw [← hc] at ek; cases ek; simp [keyEq]
      | _ => simp [keyD] at hc
    | _ => simp [keyD] at ek
theorem putK_new {acc : List (Key × V)} {k : Key} {v : V} (h : ∀ p ∈ acc, p.1 ≠ k) : putK acc k v = acc ++ [(k, v)] := by
  unfold putK
  rw [if_neg]
  simp only [List.any_eq_true, decide_eq_true_eq, not_exists, not_and]
  exact h
theorem mergeK_new : ∀ (more acc : List (Key × V)), (more.map (·.1)).Nodup → (∀ p ∈ more, ∀ q ∈ acc, q.1 ≠ p.1) → mergeK acc more = acc ++ more
  | [], acc, _, _ => by simp [mergeK]
  | p :: r, acc, nd, h => by
    rw [List.map_cons, List.nodup_cons] at nd
    show mergeK (putK acc p.1 p.2) r = _
    rw [putK_new (fun q m => h p (List.mem_cons_self ..) q m), mergeK_new r _ nd.2]
    · simp
    · intro q m q' m'
      rcases List.mem_append.mp m' with z | z
      · exact h q (List.mem_cons_of_mem _ m) q' z
      · simp only [List.mem_cons, List.not_mem_nil, or_false] at z
        subst z
        exact fun e => nd.1 (List.mem_map.mpr ⟨q, m, e.symm⟩)
theorem Reps.writeO {R : Rx} {P : Addr → Prop} {H : Hp} {p : Addr} {o o' : HO} {ds : List D} {vs : List V} (hp : H p = some o) (n1 : ∀ xs, o ≠ .tup xs) (n2 : ∀ ob u, o ≠ .frz ob u) (np : ∀ a, P a → a ≠ p) (h : Reps R P H ds vs) : Reps R P (upd H p o') ds vs :=
  Reps.mono (.refl R) (fun _ p => p) (fun a o q c => by
    rw [upd_ne (fun z => ?_)]
    · exact q
    · subst z
      rw [hp] at q; cases q
      rcases c with c | ⟨zs, e⟩ | ⟨ob, u, e⟩
      · exact np a c rfl
      · exact n1 _ e
      · exact n2 _ _ e) _ _ h
def kvD : D → V
  | .int i => .int i
  | .str x => .str x
  | _ => .non
theorem kvD_of {d : D} {k : Key} (h : keyD d = some k) : kvD d = kV k := by
  cases d with
  | int i => simp only [keyD, Option.some.injEq] at h; subst h; rfl
  | str i => simp only [keyD, Option.some.injEq] at h; subst h; rfl
  | _ => simp [keyD] at h
section
variable {X : Cx} {cl : Calls}
/-- the pairs of a display -/
structure SD (X : Cx) (cl : Calls) (ks : List D) (vs : CEs) (keys : List (Option Expr)) (values : List Expr) : Prop where
  run : ∀ pos, ∃ trs, PPs X pos keys values trs ∧ ∀ σ H (Q : List (V × V) → Hp → Prop), (∃ bx P env bs ds bs', ERel (RX X bx) P (skAs vs) H σ env bs ∧ evs cl vs env bs = some (ds, bs') ∧
    ∀ xs H' bx', EPost (RX X bx) (RX X bx') H H' bs' → Reps (RX X bx') (Pn (RX X bx') P H) H' ds xs → Q ((ks.map kvD).zip xs) H') → tPairs trs σ H Q
theorem sd_nil : SD X cl [] .nil [] [] := by
  refine ⟨fun pos => ⟨[], pps_nil, fun σ H Q q => ?_⟩⟩
  obtain ⟨bx, P, env, bs, d, bs', g1, g2, g3⟩ := q
  simp only [evs, pure_def, ret_some] at g2
  obtain ⟨rfl, rfl⟩ := g2
  exact g3 [] H bx (.refl g1.box) .nil
theorem sd_cons {k : D} {ks : List D} {c : CE} {cs : CEs} {ek e : Expr} {eks : List (Option Expr)} {es : List Expr} (hk : PE X ek (tC (kvD k))) (h : SE X cl c e) (t : SD X cl ks cs eks es) : SD X cl (k :: ks) (.cons c cs) (some ek :: eks) (e :: es) := by
  refine ⟨fun pos => ?_⟩
  obtain ⟨trs, p, f⟩ := t.run pos
  refine ⟨_, pps_cons hk h.full p, fun σ H Q q => ?_⟩
  obtain ⟨bx, P, env, bs, d, bs', g1, g2, g3⟩ := q
  simp only [evs, bind_def, pure_def, bnd_some, ret_some] at g2
  obtain ⟨x, b1, ex, r, b2, er, rfl, rfl⟩ := g2
  simp only [skAs] at g1
  refine ⟨bx, P, env, bs, x, b1, g1.weak fun i m => List.mem_append_left _ m, ex, fun v1 H1 bx1 e1 r1 => ?_⟩
  refine f σ H1 _ ⟨bx1, _, env, b1, r, _, (g1.weak fun i m => List.mem_append_right _ m).on e1, er, fun v2 H2 bx2 e2 r2 => ?_⟩
  exact g3 (v1 :: v2) H2 bx2 (e1.trans e2) (.cons ((Pn.of e2 (fun a p => p.2) r1 e1.box).back e1 e2) (r2.back e1 e2))
theorem sd_int {i : Int} {ks : List D} {c : CE} {cs : CEs} {e : Expr} {j pos} {eks : List (Option Expr)} {es : List Expr} (h : SE X cl c e) (t : SD X cl ks cs eks es) : SD X cl (.int i :: ks) (.cons c cs) (some (.Constant (.int i) j pos) :: eks) (e :: es) := sd_cons pe_int h t
theorem sd_str {i : Str} {ks : List D} {c : CE} {cs : CEs} {e : Expr} {j pos} {eks : List (Option Expr)} {es : List Expr} (h : SE X cl c e) (t : SD X cl ks cs eks es) : SD X cl (.str i :: ks) (.cons c cs) (some (.Constant (.str i) j pos) :: eks) (e :: es) := sd_cons pe_str h t
theorem map_zip_fst {α β : Type} : ∀ {xs : List α} {ys : List β}, xs.length = ys.length → (xs.zip ys).map (·.1) = xs
  | [], [], _ => rfl
  | x :: xs, y :: ys, h => by simp [map_zip_fst (xs := xs) (ys := ys) (by simpa using h)]
theorem map_zip_snd {α β : Type} : ∀ {xs : List α} {ys : List β}, xs.length = ys.length → (xs.zip ys).map (·.2) = ys
  | [], [], _ => rfl
  | x :: xs, y :: ys, h => by simp [map_zip_snd (xs := xs) (ys := ys) (by simpa using h)]
theorem map_zip_kV : ∀ {ks : List D} {kk : List Key} {xs : List V}, ks.map keyD = kk.map some → kk.length = xs.length → (ks.map kvD).zip xs = (kk.zip xs).map fun kv => (kV kv.1, kv.2)
  | [], [], [], _, _ => rfl
  | k :: ks, c :: kk, x :: xs, h, l => by
    simp only [List.map_cons, List.cons.injEq] at h
    simp only [List.map_cons, List.zip_cons_cons, kvD_of h.1, map_zip_kV h.2 (by simpa using l)]
  | [], _ :: _, _, h, _ => by simp at h
  | _ :: _, [], _, h, _ => by simp at h
  | _, [], _ :: _, _, l => by simp at l
  | _, _ :: _, [], _, l => by simp at l
theorem se_dct {ks : List D} {vs : CEs} {keys : List (Option Expr)} {values : List Expr} {pos : Pos} (h : SD X cl ks vs keys values) (hall : keys.all (·.isSome) = true) (hl : keys.length = values.length) (h0 : keys.isEmpty = false) (h15 : keys.length ≤ 15) : SE X cl (.dct ks vs) (.Dict keys values pos) := by
  obtain ⟨trs, pp, f⟩ := h.run pos
  have h0' : keys ≠ [] := fun e => by subst e; cases h0
  refine SE.ofN (by simp only [skA, sk]) (PE.imp (pe_disp pp hall hl h0' h15) fun σ H Q q => ?_) (fun _ => rfl)
  obtain ⟨bx, P, env, bs, d, bs', g1, g2, g3⟩ := q
  simp only [ev, bind_def, bnd_some] at g2
  obtain ⟨ds, b1, ex, g2⟩ := g2
  simp only [sk] at g1
  split at g2
  · rename_i hz
    obtain ⟨z1, z2, z3⟩ := hz
    obtain ⟨rfl, rfl⟩ := ret_some.mp g2
    obtain ⟨kk, ek, nd⟩ := flat_keys z3
    intro p hp
    have e0 : EPost (RX X bx) (RX X bx) H (upd H p (.dK [])) bs := EPost.new g1.box hp
    have nb0 : ¬InBox (RX X bx) p := fun i => by obtain ⟨xs, z⟩ := g1.box.lst i; rw [hp] at z; cases z
    refine f σ _ _ ⟨bx, fun a => P a ∧ a ≠ p, env, bs, ds, _, g1.onP e0 (fun a o q e => ⟨q, fun z => by subst z; rw [hp] at e; cases e⟩) fun a q => g1.nob a q.1, ex, fun xs H2 bx2 e2 r2 => ?_⟩
    have h2 : H2 p = some (.dK []) := e2.keep _ _ upd_same nb0
    have nb2 : ¬InBox (RX X bx2) p := e2.notbox upd_same nb0
    have lk : kk.length = ks.length := by have := congrArg List.length ek; simpa using this.symm
    have lx : ks.length = xs.length := by rw [← z1, r2.length]
    have lkx : kk.length = xs.length := lk.trans lx
    have mk : mergeK [] (kk.zip xs) = kk.zip xs := by
      have := mergeK_new (kk.zip xs) [] (by rw [map_zip_fst lkx]; exact nd) (fun p _ q m => by cases m)
      simpa using this
    refine ⟨h2, kk.zip xs, map_zip_kV ek lkx, by rw [List.length_zip, ← lkx, Nat.min_self, lk]; exact z2, ?_⟩
    rw [mk]
    refine g3 _ _ bx2 ((e0.trans e2).write hp nb2) ⟨fun _ => ⟨p, rfl, hp, p, xs, rfl, .inl ⟨kk.zip xs, upd_same, ?_, ?_⟩, nb2, ?_⟩, fun z => by cases z⟩
    · rw [ek]
      have : (kk.zip xs).map (fun kv => some kv.1) = ((kk.zip xs).map (·.1)).map some := by rw [List.map_map]; rfl
      rw [this, map_zip_fst lkx]
    · rw [map_zip_snd lkx]
    · refine Reps.writeO h2 (fun _ z => by cases z) (fun _ _ z => by cases z) (fun a q => q.2) (Reps.mono (.refl _) (fun a q => ?_) (.refl _ _) _ _ r2)
      obtain ⟨q | q, n⟩ := q
      · exact ⟨⟨.inl q.1, n⟩, q.2⟩
      · refine ⟨⟨.inr ?_, n⟩, fun z => by subst z; rw [upd_same] at q; cases q⟩
        by_cases z : a = p
        · rw [z]; exact hp
        · rw [upd_ne z] at q; exact q
  · simp [lift_some] at g2
theorem se_dct0 {pos : Pos} : SE X cl (.dct [] .nil) (.Dict [] [] pos) := by
  refine SE.ofN (by simp only [skA, sk]) (PE.imp pe_dnewK fun σ H Q q => ?_) (fun _ => rfl)
  obtain ⟨bx, P, env, bs, d, bs', g1, g2, g3⟩ := q
  simp only [ev, evs, bind_def, bnd_some, pure_def, ret_some] at g2
  obtain ⟨ds, b1, ⟨rfl, rfl⟩, g2⟩ := g2
  rw [if_pos ⟨rfl, by decide, rfl⟩] at g2
  obtain ⟨rfl, rfl⟩ := ret_some.mp g2
  intro p hp
  refine g3 _ _ bx (EPost.new g1.box hp) ⟨fun _ => ⟨p, rfl, hp, p, [], rfl, .inl ⟨[], upd_same, rfl, rfl⟩, fun i => ?_, .nil⟩, fun z => by cases z⟩
  obtain ⟨xs, z⟩ := g1.box.lst i; rw [hp] at z; cases z
/-! ### calls of the module's defs -/
/-- what a def promises -/
def spD (K : PySem.W.Frag) (w : World) (mg : Str → Option Value) (np : Nat) (f : List D → M D) : Sp := fun vs H Q _ => vs.length = np ∧ ∃ bx P bs ds d bs', BoxRel ⟨K, w, mg, bx⟩ H bs ∧ (∀ a, P a → ¬InBox ⟨K, w, mg, bx⟩ a) ∧ Reps ⟨K, w, mg, bx⟩ P H ds vs ∧ f ds bs = some (d, bs') ∧
  ∀ v H' bx', EPost ⟨K, w, mg, bx⟩ ⟨K, w, mg, bx'⟩ H H' bs' → Rep ⟨K, w, mg, bx'⟩ (Pn ⟨K, w, mg, bx'⟩ P H) H' d v → Q v H'
/-- a def of the module, as it may be called -/
structure FA (X : Cx) (x : Str) (np : Nat) (f : List D → M D) : Prop where
  ex : ∃ k a fd ps, FnOk X.prog X.w X.K X.mg X.base CX0 k a fd ps (spD X.K X.w X.mg np f) ∧ Room k X.A ∧ X.mg x = some (.ref a) ∧ PySem.W.keepIn X.K (.ref a) = true ∧ Binds X.K fd ps []
def CEs.len : CEs → Nat
  | .nil => 0
  | .cons _ es => es.len + 1
theorem evs_len : ∀ {cs : CEs} {env : Env} {b b' : BS} {ds : List D}, evs cl cs env b = some (ds, b') → ds.length = cs.len
  | .nil, _, _, _, _, h => by simp only [evs, pure_def, ret_some] at h; obtain ⟨rfl, _⟩ := h; rfl
  | .cons e es, _, _, _, _, h => by
    simp only [evs, bind_def, pure_def, bnd_some, ret_some] at h
    obtain ⟨x, b1, ex, r, b2, er, rfl, _⟩ := h
    simp [CEs.len, evs_len er]
theorem se_call {g : Nat} {cs : CEs} {es : List Expr} {x : Str} {p pos : Pos} (hf : FA X x cs.len (cl.fn g)) (hg : Gl X x) (ha : SA X cl cs es) (hdb : (x == ("__debug__" : Str)) = false) (hs : es.all ns = true) (hl : cs.len = es.length) : SE X cl (.call g cs) (.Call (.Name x p) es [] pos) := by
  obtain ⟨k, a, fd, ps, F, hr, hm, hk, hb⟩ := hf
  have go : ∀ σ H (Q : VK), tF X (skAs cs) (ev cl (.call g cs)) σ H Q → tFs X (skAs cs) (evs cl cs) σ H fun vs H1 => spD X.K X.w X.mg cs.len (cl.fn g) (vs ++ []) H1 Q E0 := fun σ H Q q => by
    obtain ⟨bx, P, env, bs, d, bs', h1, h2, h3⟩ := q
    simp only [ev, bind_def, bnd_some] at h2
    obtain ⟨ds, b1, ex, eg⟩ := h2
    refine ⟨bx, P, env, bs, ds, b1, h1, ex, fun vs H1 bx1 e1 r1 => ?_⟩
    show spD X.K X.w X.mg cs.len (cl.fn g) (vs ++ []) H1 Q E0
    rw [List.append_nil]
    exact ⟨by rw [← r1.length]; exact evs_len ex, bx1, _, b1, ds, d, bs', e1.box, fun a p => p.2, r1, eg, fun v H3 bx3 e3 r3 => h3 v H3 bx3 (e1.trans e3) (r3.back e1 e3)⟩
  have key : PE X (.Call (.Name x p) es [] pos) (tF X (sk (.call g cs)) (ev cl (.call g cs))) := by
    rw [show sk (.call g cs) = skAs cs by simp only [sk]]
    cases es with
    | nil =>
      refine PE.imp (pe_call0 F hr hg hm hk hb (dvs := []) .nil pass0 hdb) fun σ H Q q => ?_
      have q2 := go σ H Q q
      cases cs with
      | nil =>
        obtain ⟨bx, P, env, bs, ds, bs', h1, h2, h3⟩ := q2
        simp only [evs, pure_def, ret_some] at h2
        obtain ⟨rfl, rfl⟩ := h2
        exact h3 [] H bx (.refl h1.box) .nil
      | cons c r => simp [CEs.len] at hl
    | cons e es =>
      have hs' : ns e = true ∧ es.all ns = true := by simpa only [List.all_cons, Bool.and_eq_true] using hs
      exact PE.imp (pe_call F hr hg hm hk hb (dvs := []) .nil pass0 ha.full hdb (star_ns hs'.1) (back_ns hs'.2)) go
  exact SE.of (by simp only [skA, sk]) rfl key (fun _ => rfl)
end
end En

/-! The engine, part k: operators. -/
namespace En
open PySem PySem.Spec PyProof.Rows L2

theorem tuple_mulW1 (l : Addr) (items : Array Value) (n : Nat) (dd : Option Addr) (sl : Array (Option Value)) (x : Int) (u : Tok) (c0 : (decide (x < -(2 ^ 63)) || decide (x ≥ 2 ^ 63)) = false) (c1 : (items.isEmpty || x == 1) = true) :
    Meets (Builtin.«tuple.__mul__» ⟨[.ref l, .int x u], []⟩) (fun _ R s => s.heap.get? l = some { cls := .type "tuple", dict := dd, data := .seq items n, slots := sl } ∧
      R (.ok (.ret (Value.ref l))) { s with heap := s.heap, toks := s.toks }) :=
  .of_wp fun prog w A R s h => by
    obtain ⟨hp, g, d, tk, os⟩ := s
    obtain ⟨hl, h⟩ := h
    have f1 := AutoSeq1.idx_int
    wp_walk using wpAny_loadPart' hl
    refine wpAny_ite_false (decide_eq_false (by rw [c0]; exact Bool.false_ne_true)) ?_
    wp_walk using wpAny_loadPart' hl
    exact ⟨_, rfl, h⟩
theorem tuple_mulW0 (l : Addr) (items : Array Value) (n : Nat) (dd : Option Addr) (sl : Array (Option Value)) (x : Int) (u : Tok) (c0 : (decide (x < -(2 ^ 63)) || decide (x ≥ 2 ^ 63)) = false) (c1 : (items.isEmpty || x == 1) = false) (c2 : (decide (x ≤ 0) || items.isEmpty) = true) :
    Meets (Builtin.«tuple.__mul__» ⟨[.ref l, .int x u], []⟩) (fun _ R s => s.heap.get? l = some { cls := .type "tuple", dict := dd, data := .seq items n, slots := sl } ∧
      R (.ok (.ret (Value.ref s.heap.objs.size))) { s with heap := s.heap.push { cls := Value.type "tuple", data := Data.seq #[] }, toks := s.toks }) :=
  .of_wp fun prog w A R s h => by
    obtain ⟨hp, g, d, tk, os⟩ := s
    obtain ⟨hl, h⟩ := h
    have f1 := AutoSeq1.idx_int
    wp_walk using wpAny_loadPart' hl
    repeat (first
      | (refine wpAny_ite_false (decide_eq_false (by rw [c0]; exact Bool.false_ne_true)) ?_; wp_walk using wpAny_loadPart' hl)
      | (refine wpAny_ite_false (decide_eq_false (by rw [c1]; exact Bool.false_ne_true)) ?_; wp_walk using wpAny_loadPart' hl))
    exact ⟨_, rfl, h⟩

/-! ### lists and tuples by their objects -/
section
variable {X : Cx}
theorem lstObj {pins : List (Addr × Obj)} {σ : L2.St} {H : Hp} {s : Shared} {bx : Option (Addr × Addr)} {P : Addr → Prop} {a : Addr} {xs : List V} (I : L2.Inv X pins σ H s) (h : LstAt (RX X bx) P H a xs) :
    xs.length ≤ sizeLine ∧ ∃ (its : List Value) (n : Nat), Vals xs its ∧ xs.length = its.length ∧ s.heap.get? a = some { cls := .type "list", data := .seq its.toArray n } := by
  rcases h with ⟨_, h⟩ | ⟨o, h⟩
  · exact I.lstM h
  · obtain ⟨_, z, its, n, r, e⟩ := I.hok a _ h
    exact ⟨z, its, n, r, r.length, e⟩
def rCatL (X : Cx) : R2 := fun x y H Q => ∃ bx bx' P P' l b xs zs, x = .ref l ∧ y = .ref b ∧ LstAt (RX X bx) P H l xs ∧ LstAt (RX X bx') P' H b zs ∧ xs.length + zs.length ≤ sizeLine ∧ ∀ p, H p = none → Q (.ref p) (upd H p (.lst (xs ++ zs)))
theorem op_catL : OpR X (binaryOp .Add) (rCatL X) := by
  intro pins s σ H x y v u Q I rx ry h
  obtain ⟨bx, bx', P, P', l, b, xs, zs, rfl, rfl, hH, hB, hz, q⟩ := h
  cases rx
  cases ry
  obtain ⟨z, its, n, r, hl, e⟩ := lstObj I hH
  obtain ⟨z2, its2, n2, r2, hl2, e2⟩ := lstObj I hB
  refine PySem.P.add_list e e2 ?_ (by rw [List.size_toArray, List.size_toArray]; omega)
  have ea : its.toArray ++ its2.toArray = (its ++ its2).toArray := by simp
  rw [ea]
  exact ⟨.ref _, _, I.lnew (t' := s.toks) (r.append r2) (by rw [List.length_append]; omega), rfl, q _ I.fresh⟩
def rRepL (X : Cx) : R2 := fun x y H Q => ∃ bx P l k xs, x = .ref l ∧ y = .int k ∧ LstAt (RX X bx) P H l xs ∧ -(2 ^ 63) ≤ k ∧ k < 2 ^ 63 ∧ xs.length * k.toNat ≤ sizeLine ∧
  ∀ p, H p = none → Q (.ref p) (upd H p (.lst (List.replicate k.toNat xs).flatten))
theorem op_repL : OpR X (binaryOp .Mult) (rRepL X) := by
  intro pins s σ H x y v u Q I rx ry h
  obtain ⟨bx, P, l, k, xs, rfl, rfl, hH, h1, h2, hz, q⟩ := h
  cases rx
  obtain ⟨t, rfl⟩ := ry
  obtain ⟨z, its, n, r, hl, e⟩ := lstObj I hH
  have hlen : its.toArray.size * k.toNat ≤ sizeLine := by rw [List.size_toArray, ← hl]; exact hz
  have hcap : ¬ its.toArray.size * k.toNat > (2 ^ 63 - 1) / 8 := by
    have : (sizeLine : Nat) ≤ (2 ^ 63 - 1) / 8 := by decide
    omega
  have hfit : ¬ (!Builtin.List.listFitsIndex k) = true := by
    rw [fitsIndex_both h1 h2]
    exact Bool.false_ne_true
  have hlong : ¬ Builtin.List.listTooLong (its.toArray.size * k.toNat) = true := by
    rw [notLongL hlen]
    exact Bool.false_ne_true
  have hnew : List.foldl (fun x1 x2 => x1 ++ x2) #[] (List.replicate (if its.toArray.isEmpty = true then 0 else k.toNat) its.toArray) = (List.replicate k.toNat its).flatten.toArray := by
    have f0 : ∀ m : Nat, List.foldl (fun x1 x2 => x1 ++ x2) #[] (List.replicate m its.toArray) = (List.replicate m its).flatten.toArray := fun m => by
      have := foldl_rep its m []
      rw [List.nil_append] at this
      exact this
    rw [f0]
    cases its with
    | nil => simp
    | cons a r' => rw [if_neg (by simp)]
  refine wpAny_binaryOp_repeat_ref (T := "list") (U := "int") (by decide) ⟨_, e, rfl⟩ (fun s' => typeIs_int s' k t) noFill_list_mul F.fills_int_mul F.slot_int_rmul repeat_list F.slot_int_index.lookup
    (call_meets F.slot_int_rmul (typeIs_int s k t) F.entry_int_rmul (F.args_int_rmul_2 _ _) (int___rmul___int_list k t l its.toArray n)
      ⟨e, rfl, ⟨_, e, rfl⟩, call_meets F.slot_list_mul ⟨_, e, rfl⟩ F.entry_list_mul (F.args_list_mul_2 _ _) (AutoListH.list___mul___list_int_3 l its.toArray n k t hfit hcap hlong) ⟨e, ?_⟩⟩)
  rw [hnew]
  exact ⟨.ref _, _, I.lnew (t' := s.toks) (r.rep k.toNat) (by rw [PyProof.Rows.lm_len_rep_flat, Nat.mul_comm]; exact hz), rfl, q _ I.fresh⟩
def rMulT (K : PySem.W.Frag) : R2 := fun x y H Q => ∃ l k xs, x = .ref l ∧ y = .int k ∧ SqT K H l xs ∧ -(2 ^ 63) ≤ k ∧ k < 2 ^ 63 ∧ xs.length * k.toNat ≤ sizeLine ∧
  ((xs = [] ∨ k = 1) → Q (.ref l) H) ∧ (xs ≠ [] → k ≠ 1 → ∀ p, H p = none → Q (.ref p) (upd H p (.tup (List.replicate k.toNat xs).flatten)))
theorem op_mulT : OpR X (binaryOp .Mult) (rMulT X.K) := by
  intro pins s σ H x y v u Q I rx ry h
  obtain ⟨l, k, xs, rfl, rfl, hT, h1, h2, hz, q1, q2⟩ := h
  cases rx
  obtain ⟨t, rfl⟩ := ry
  obtain ⟨its, r, ⟨⟨cls, dd, data, sl⟩, ho, hc, n, hd⟩, hs⟩ := I.tuple hT
  simp only at hc hd
  subst hc hd
  have hle : its.length = xs.length := r.length.symm
  have c0 : (decide (k < -(2 ^ 63)) || decide (k ≥ 2 ^ 63)) = false := by
    rw [decide_eq_false (by omega), decide_eq_false (by omega)] <;> rfl
  have road : ∀ {Qf : Value → Shared → Prop}, wpAny (model X.prog X.w) X.A (call (.builtin "tuple.__mul__") [.ref l, .int k t]) Qf X.xe s → wpAny (model X.prog X.w) X.A (binaryOp .Mult (.ref l) (.int k t)) Qf X.xe s := fun hq =>
    wpAny_binaryOp_repeat_ref (T := "tuple") (U := "int") (by decide) ⟨_, ho, rfl⟩ (fun s' => typeIs_int s' k t) noFill_tuple_mul F.fills_int_mul F.slot_int_rmul repeat_tuple F.slot_int_index.lookup
      (call_meets F.slot_int_rmul (typeIs_int s k t) F.entry_int_rmul (F.args_int_rmul_2 _ _) (int_rmul_tuple k t l its.toArray n dd sl) ⟨ho, rfl, ⟨_, ho, rfl⟩, hq⟩)
  by_cases e1 : xs = [] ∨ k = 1
  · refine road (call_meets F.slot_tuple_mul ⟨_, ho, rfl⟩ F.entry_tuple_mul (F.args_tuple_mul_2 _ _) (tuple_mulW1 l its.toArray n dd sl k t c0 ?_) ⟨ho, ⟨.ref l, H, I.tok _, rfl, q1 e1⟩⟩)
    rcases e1 with e | e
    · subst e
      have : its = [] := List.eq_nil_of_length_eq_zero hle
      subst this
      rfl
    · subst e; simp
  · have hne : xs ≠ [] := fun e => e1 (.inl e)
    have hk1 : k ≠ 1 := fun e => e1 (.inr e)
    have hn : its ≠ [] := fun e => hne (by
      rw [e] at hle
      exact List.eq_nil_of_length_eq_zero hle.symm)
    have hi : its.toArray.isEmpty = false := by
      cases its with
      | nil => exact absurd rfl hn
      | cons a b => rfl
    have c1 : (its.toArray.isEmpty || k == 1) = false := by
      rw [hi, Bool.false_or]
      exact beq_eq_false_iff_ne.mpr hk1
    by_cases hk0 : k ≤ 0
    · have hk2 : k.toNat = 0 := by omega
      refine road (call_meets F.slot_tuple_mul ⟨_, ho, rfl⟩ F.entry_tuple_mul (F.args_tuple_mul_2 _ _) (tuple_mulW0 l its.toArray n dd sl k t c0 c1 (by rw [decide_eq_true hk0]; rfl)) ⟨ho, ?_⟩)
      have q3 := q2 hne hk1 s.heap.objs.size I.fresh
      rw [hk2] at q3
      exact ⟨.ref s.heap.objs.size, _, I.laid (t' := s.toks) (o := .tup []) (fun b ob q => Heap.get?_push_of_some _ q) (Nat.le_refl _) ⟨Nat.zero_le _, [], .nil, IsTup.new _ _⟩, rfl, q3⟩
    · have c2 : (decide (k ≤ 0) || its.toArray.isEmpty) = false := by
        rw [hi, Bool.or_false]
        exact decide_eq_false hk0
      have hm : ((its.toArray.size : Nat) : Int) * k ≤ (sizeLine : Nat) := by
        rw [List.size_toArray, hle]
        have : k = (k.toNat : Int) := by omega
        rw [this]
        exact_mod_cast hz
      have hsl := sizeLine_eq
      have c4 : Builtin.Tuple.tupleTooMany (((its.toArray.size : Nat) : Int) * k) = false := by
        unfold Builtin.Tuple.tupleTooMany
        exact decide_eq_false (by omega)
      have flen : (List.replicate k.toNat its).flatten.length ≤ sizeLine := by
        rw [PyProof.Rows.lm_len_rep_flat, hle, Nat.mul_comm]; exact hz
      refine road (call_meets F.slot_tuple_mul ⟨_, ho, rfl⟩ F.entry_tuple_mul (F.args_tuple_mul_2 _ _) (tuple_mulW l its.toArray n dd sl k t c0 c1 c2 (by omega) c4 (by rw [size_rep, List.size_toArray]; exact flen)) ⟨ho, ?_⟩)
      rw [size_rep]
      refine ⟨.ref s.heap.objs.size, _, I.laid (t' := s.toks) (o := .tup (List.replicate k.toNat xs).flatten) (fun b ob q => Heap.get?_push_of_some _ q) (Nat.le_refl _) ?_, rfl, q2 hne hk1 _ I.fresh⟩
      exact ⟨by rw [PyProof.Rows.lm_len_rep_flat, Nat.mul_comm]; exact hz, _, r.rep k.toNat, IsTup.new _ _⟩
end
end En

/-! The engine, part ka: the order of ints and tuples of such. -/
namespace En
open PySem PySem.Spec PyProof.Rows L2
theorem int_swap (i j : Int) : compare j i = (compare i j).swap := by
  simp only [compare, compareOfLessAndEq]
  by_cases h : i < j
  · rw [if_pos h, if_neg (by omega), if_neg (by omega)]; rfl
  · by_cases e : i = j
    · subst e; simp
    · rw [if_neg h, if_neg e, if_pos (by omega)]; rfl
theorem then_swap (a b : Ordering) : (a.then b).swap = a.swap.then b.swap := by cases a <;> rfl
mutual
theorem cmpP_swap : ∀ x y : PyData, cmpP y x = (cmpP x y).swap
  | .int i, y => by
    cases y with
    | int j => simpa only [cmpP] using int_swap i j
    | _ => simp only [cmpP]; rfl
  | .tuple xs, y => by
    cases y with
    | tuple ys => simpa only [cmpP] using cmpPs_swap xs ys
    | _ => simp only [cmpP]; rfl
  | .none, y => by cases y <;> (simp only [cmpP]; rfl)
  | .bool _, y => by cases y <;> (simp only [cmpP]; rfl)
  | .str _, y => by cases y <;> (simp only [cmpP]; rfl)
  | .list _, y => by cases y <;> (simp only [cmpP]; rfl)
  | .dict _, y => by cases y <;> (simp only [cmpP]; rfl)
theorem cmpPs_swap : ∀ x y : List PyData, cmpPs y x = (cmpPs x y).swap
  | [], y => by cases y <;> (simp only [cmpPs]; rfl)
  | x :: xs, y => by
    cases y with
    | nil => simp only [cmpPs]; rfl
    | cons y ys => simp only [cmpPs, then_swap, cmpP_swap x y, cmpPs_swap xs ys]
end
/-- three in a row -/
def K3 (a b c : Ordering) : Prop := (a = .eq → c = b) ∧ (b = .eq → c = a) ∧ (a = .lt → b = .lt → c = .lt) ∧ (a = .gt → b = .gt → c = .gt)
theorem K3.int (i j k : Int) : K3 (compare i j) (compare j k) (compare i k) := by
  simp only [K3, compare, compareOfLessAndEq]
  split <;> split <;> split <;> (try split) <;> (try split) <;> (try split) <;> simp <;> omega
theorem K3.next {a b c a' b' c' : Ordering} (h : K3 a b c) (h' : K3 a' b' c') : K3 (a.then a') (b.then b') (c.then c') := by
  obtain ⟨h1, h2, h3, h4⟩ := h
  obtain ⟨g1, g2, g3, g4⟩ := h'
  cases a <;> cases b <;> simp_all [K3, Ordering.then]
mutual
theorem cmpP_K3 : ∀ x y z : PyData, K3 (cmpP x y) (cmpP y z) (cmpP x z)
  | .int i, y, z => by
    cases y with
    | int j => cases z with
      | int k => simpa only [cmpP] using K3.int i j k
      | _ => simp only [cmpP]; cases compare i j <;> simp [K3]
    | tuple ys => cases z with
      | int k => simp only [cmpP]; cases compare i k <;> simp [K3]
      | tuple zs => simp only [cmpP]; cases cmpPs ys zs <;> simp [K3]
      | _ => simp only [cmpP]; simp [K3]
    | _ => cases z with
      | int k => simp only [cmpP]; cases compare i k <;> simp [K3]
      | _ => simp only [cmpP]; simp [K3]
  | .tuple xs, y, z => by
    cases y with
    | tuple ys => cases z with
      | tuple zs => simpa only [cmpP] using cmpPs_K3 xs ys zs
      | _ => simp only [cmpP]; cases cmpPs xs ys <;> simp [K3]
    | int j => cases z with
      | tuple zs => simp only [cmpP]; cases cmpPs xs zs <;> simp [K3]
      | int k => simp only [cmpP]; cases compare j k <;> simp [K3]
      | _ => simp only [cmpP]; simp [K3]
    | _ => cases z with
      | tuple zs => simp only [cmpP]; cases cmpPs xs zs <;> simp [K3]
      | _ => simp only [cmpP]; simp [K3]
  | .none, y, z => by
    cases y with
    | int j => cases z with
      | int k => simp only [cmpP]; cases compare j k <;> simp [K3]
      | _ => simp only [cmpP]; simp [K3]
    | tuple ys => cases z with
      | tuple zs => simp only [cmpP]; cases cmpPs ys zs <;> simp [K3]
      | _ => simp only [cmpP]; simp [K3]
    | _ => cases z <;> simp only [cmpP] <;> simp [K3]
  | .bool _, y, z => by
    cases y with
    | int j => cases z with
      | int k => simp only [cmpP]; cases compare j k <;> simp [K3]
      | _ => simp only [cmpP]; simp [K3]
    | tuple ys => cases z with
      | tuple zs => simp only [cmpP]; cases cmpPs ys zs <;> simp [K3]
      | _ => simp only [cmpP]; simp [K3]
    | _ => cases z <;> simp only [cmpP] <;> simp [K3]
  | .str _, y, z => by
    cases y with
    | int j => cases z with
      | int k => simp only [cmpP]; cases compare j k <;> simp [K3]
      | _ => simp only [cmpP]; simp [K3]
    | tuple ys => cases z with
      | tuple zs => simp only [cmpP]; cases cmpPs ys zs <;> simp [K3]
      | _ => simp only [cmpP]; simp [K3]
    | _ => cases z <;> simp only [cmpP] <;> simp [K3]
  | .list _, y, z => by
    cases y with
    | int j => cases z with
      | int k => simp only [cmpP]; cases compare j k <;> simp [K3]
      | _ => simp only [cmpP]; simp [K3]
    | tuple ys => cases z with
      | tuple zs => simp only [cmpP]; cases cmpPs ys zs <;> simp [K3]
      | _ => simp only [cmpP]; simp [K3]
    | _ => cases z <;> simp only [cmpP] <;> simp [K3]
  | .dict _, y, z => by
    cases y with
    | int j => cases z with
      | int k => simp only [cmpP]; cases compare j k <;> simp [K3]
      | _ => simp only [cmpP]; simp [K3]
    | tuple ys => cases z with
      | tuple zs => simp only [cmpP]; cases cmpPs ys zs <;> simp [K3]
      | _ => simp only [cmpP]; simp [K3]
    | _ => cases z <;> simp only [cmpP] <;> simp [K3]
theorem cmpPs_K3 : ∀ x y z : List PyData, K3 (cmpPs x y) (cmpPs y z) (cmpPs x z)
  | [], y, z => by
    cases y with
    | nil => cases z <;> simp only [cmpPs] <;> simp [K3]
    | cons y ys => cases z with
      | nil => simp only [cmpPs]; simp [K3]
      | cons z zs => simp only [cmpPs]; cases (cmpP y z).then (cmpPs ys zs) <;> simp [K3]
  | x :: xs, y, z => by
    cases y with
    | nil => cases z with
      | nil => simp only [cmpPs]; simp [K3]
      | cons z zs => simp only [cmpPs]; cases (cmpP x z).then (cmpPs xs zs) <;> simp [K3]
    | cons y ys => cases z with
      | nil => simp only [cmpPs]; cases (cmpP x y).then (cmpPs xs ys) <;> simp [K3]
      | cons z zs => simp only [cmpPs]; exact (cmpP_K3 x y z).next (cmpPs_K3 xs ys zs)
end
theorem leP_trans (x y z : PyData) (h1 : leP x y = true) (h2 : leP y z = true) : leP x z = true := by
  obtain ⟨k1, k2, k3, k4⟩ := cmpP_K3 x y z
  simp only [leP, bne_iff_ne, ne_eq] at h1 h2 ⊢
  cases e1 : cmpP x y <;> cases e2 : cmpP y z <;> simp_all
theorem leP_total (x y : PyData) : (leP x y || leP y x) = true := by
  unfold leP
  rw [cmpP_swap x y]
  cases cmpP x y <;> rfl
theorem ltP_swo {α : Type} (k : α → PyData) : SrtO.Swo fun v u => ltP (k v) (k u) := by
  refine ⟨fun x y h => ?_, fun x y z h1 h2 => ?_⟩
  · unfold ltP at *
    rw [cmpP_swap (k x) (k y)]
    cases e : cmpP (k x) (k y) <;> simp_all
  · have h3 : leP (k x) (k y) = true := by
      unfold leP ltP at *; rw [cmpP_swap (k y) (k x)]; cases e : cmpP (k y) (k x) <;> simp_all
    have h4 : leP (k y) (k z) = true := by
      unfold leP ltP at *; rw [cmpP_swap (k z) (k y)]; cases e : cmpP (k z) (k y) <;> simp_all
    have h5 := leP_trans _ _ _ h3 h4
    unfold leP at h5
    unfold ltP
    rw [cmpP_swap (k x) (k z)]
    cases e : cmpP (k x) (k z) <;> simp_all
/-! ### what the program's comparison gives -/
mutual
theorem okP_eqv : ∀ x y : PyData, okP x y = true → PyData.eqv x y = (cmpP x y == .eq)
  | .int i, y, h => by
    cases y with
    | int j =>
      simp only [cmpP, PyData.eqv, compare, compareOfLessAndEq]
      by_cases h : i < j
      · rw [if_pos h]; simp; omega
      · by_cases e : i = j
        · subst e; simp
        · rw [if_neg h, if_neg e]; simp [e]
    | _ => simp [okP] at h
  | .tuple xs, y, h => by
    cases y with
    | tuple ys =>
      simp only [okP] at h
      simp only [cmpP, PyData.eqv]
      exact okPs_eqv xs ys h
    | _ => simp [okP] at h
  | .none, y, h => by simp [okP] at h
  | .bool _, y, h => by simp [okP] at h
  | .str _, y, h => by simp [okP] at h
  | .list _, y, h => by simp [okP] at h
  | .dict _, y, h => by simp [okP] at h
theorem okPs_eqv : ∀ x y : List PyData, okPs x y = true → PyData.eqvAll x y = (cmpPs x y == .eq)
  | [], y, h => by cases y <;> simp [PyData.eqvAll, cmpPs]
  | x :: xs, y, h => by
    cases y with
    | nil => simp [PyData.eqvAll, cmpPs]
    | cons y ys =>
      simp only [okPs, Bool.and_eq_true] at h
      simp only [PyData.eqvAll, cmpPs, okP_eqv x y h.1, okPs_eqv xs ys h.2]
      cases cmpP x y <;> simp [Ordering.then]
end
theorem nat_cmp_succ (n m : Nat) : compare (n + 1) (m + 1) = compare n m := by
  simp only [compare, compareOfLessAndEq]
  simp
theorem lexAt_cmp (t : Ordering → Bool) (z : Bool) : ∀ (xs ys : List PyData) (i : Nat) (e r : Nat → Bool), (∀ (j : Nat) (x y : PyData), xs[j]? = some x → ys[j]? = some y → e (i + j) = (cmpP x y == .eq) ∧ (e (i + j) = false → r (i + j) = t (cmpP x y))) →
    z = t (compare xs.length ys.length) → Ob.lexAt e r z i (min xs.length ys.length) = t (cmpPs xs ys)
  | [], ys, i, e, r, h, hz => by
    rw [show min ([] : List PyData).length ys.length = 0 by simp, Ob.lexAt_zero, hz]
    cases ys <;> rfl
  | x :: xs, [], i, e, r, h, hz => by
    rw [show min (x :: xs).length ([] : List PyData).length = 0 by simp, Ob.lexAt_zero, hz]
    rfl
  | x :: xs, y :: ys, i, e, r, h, hz => by
    rw [show min (x :: xs).length (y :: ys).length = min xs.length ys.length + 1 by simp, Ob.lexAt_succ]
    obtain ⟨h1, h2⟩ := h 0 x y rfl rfl
    rw [Nat.add_zero] at h1 h2
    simp only [cmpPs]
    have ih := lexAt_cmp t z xs ys (i + 1) e r (fun j x y hx hy => by
      have := h (j + 1) x y (by simpa using hx) (by simpa using hy)
      rwa [show i + (j + 1) = i + 1 + j by omega] at this) (by rw [hz, List.length_cons, List.length_cons, nat_cmp_succ])
    cases hc : cmpP x y with
    | eq =>
      rw [hc] at h1
      rw [if_pos (by rw [h1]; rfl), ih]; rfl
    | lt =>
      rw [hc] at h1 h2
      have h1 : e i = false := h1
      rw [if_neg (by rw [h1]; simp), h2 h1]; rfl
    | gt =>
      rw [hc] at h1 h2
      have h1 : e i = false := h1
      rw [if_neg (by rw [h1]; simp), h2 h1]; rfl
theorem readsAll_at {h : Heap} : ∀ {vs : List Value} {ps : List PyData} {as : List Addr}, ReadsAll h vs ps as → vs.length = ps.length ∧ ∀ (j : Nat) (v : Value), vs[j]? = some v → ∃ p bs, ps[j]? = some p ∧ Reads h v p bs
  | _, _, _, .nil => ⟨rfl, fun j v e => by simp at e⟩
  | _, _, _, .cons r t => by
    obtain ⟨h1, h2⟩ := readsAll_at t
    refine ⟨by simp [h1], fun j v e => ?_⟩
    cases j with
    | zero => simp at e; subst e; exact ⟨_, _, rfl, r⟩
    | succ j => simpa using h2 j v (by simpa using e)
theorem okPs_at : ∀ {xs ys : List PyData} (j : Nat) {x y : PyData}, okPs xs ys = true → xs[j]? = some x → ys[j]? = some y → okP x y = true
  | [], _, j, _, _, _, e, _ => by simp at e
  | x :: xs, [], j, _, _, _, _, e => by simp at e
  | x :: xs, y :: ys, 0, _, _, h, e, e2 => by
    simp at e e2; subst e e2
    simp only [okPs, Bool.and_eq_true] at h
    exact h.1
  | x :: xs, y :: ys, j + 1, _, _, h, e, e2 => by
    simp only [okPs, Bool.and_eq_true] at h
    exact okPs_at j h.2 (by simpa using e) (by simpa using e2)
theorem canLay_mem : ∀ {ps : List PyData} {p : PyData}, PyData.canLayAll0 ps = true → p ∈ ps → p.canLay0 = true
  | [], p, _, h => by cases h
  | q :: ps, p, h, hm => by
    simp only [PyData.canLayAll0, Bool.and_eq_true] at h
    rcases List.mem_cons.mp hm with rfl | hm
    · exact h.1
    · exact canLay_mem h.2 hm
theorem len_lt (n m : Nat) : decide (n < m) = tst .Lt (compare n m) := by
  simp only [tst, compare, compareOfLessAndEq]
  by_cases h : n < m
  · have h2 : ¬ m < n := by omega
    have h3 : n ≤ m := by omega
    have h4 : ¬ m ≤ n := by omega
    simp only [h, h2, h3, h4, if_true, decide_true, decide_false]; rfl
  · by_cases e : n = m
    · subst e
      simp only [Nat.lt_irrefl, Int.lt_irrefl, Nat.le_refl, Int.le_refl, if_true, if_false, decide_true, decide_false]; rfl
    · have h2 : m < n := by omega
      have h3 : ¬ n ≤ m := by omega
      have h4 : m ≤ n := by omega
      simp only [h, e, h2, h3, h4, if_true, if_false, decide_true, decide_false]; rfl
theorem len_le (n m : Nat) : decide (n ≤ m) = tst .LtE (compare n m) := by
  simp only [tst, compare, compareOfLessAndEq]
  by_cases h : n < m
  · have h2 : ¬ m < n := by omega
    have h3 : n ≤ m := by omega
    have h4 : ¬ m ≤ n := by omega
    simp only [h, h2, h3, h4, if_true, decide_true, decide_false]; rfl
  · by_cases e : n = m
    · subst e
      simp only [Nat.lt_irrefl, Int.lt_irrefl, Nat.le_refl, Int.le_refl, if_true, if_false, decide_true, decide_false]; rfl
    · have h2 : m < n := by omega
      have h3 : ¬ n ≤ m := by omega
      have h4 : m ≤ n := by omega
      simp only [h, e, h2, h3, h4, if_true, if_false, decide_true, decide_false]; rfl
theorem len_gt (n m : Nat) : decide (m < n) = tst .Gt (compare n m) := by
  simp only [tst, compare, compareOfLessAndEq]
  by_cases h : n < m
  · have h2 : ¬ m < n := by omega
    have h3 : n ≤ m := by omega
    have h4 : ¬ m ≤ n := by omega
    simp only [h, h2, h3, h4, if_true, decide_true, decide_false]; rfl
  · by_cases e : n = m
    · subst e
      simp only [Nat.lt_irrefl, Int.lt_irrefl, Nat.le_refl, Int.le_refl, if_true, if_false, decide_true, decide_false]; rfl
    · have h2 : m < n := by omega
      have h3 : ¬ n ≤ m := by omega
      have h4 : m ≤ n := by omega
      simp only [h, e, h2, h3, h4, if_true, if_false, decide_true, decide_false]; rfl
theorem len_ge (n m : Nat) : decide (m ≤ n) = tst .GtE (compare n m) := by
  simp only [tst, compare, compareOfLessAndEq]
  by_cases h : n < m
  · have h2 : ¬ m < n := by omega
    have h3 : n ≤ m := by omega
    have h4 : ¬ m ≤ n := by omega
    simp only [h, h2, h3, h4, if_true, decide_true, decide_false]; rfl
  · by_cases e : n = m
    · subst e
      simp only [Nat.lt_irrefl, Int.lt_irrefl, Nat.le_refl, Int.le_refl, if_true, if_false, decide_true, decide_false]; rfl
    · have h2 : m < n := by omega
      have h3 : ¬ n ≤ m := by omega
      have h4 : m ≤ n := by omega
      simp only [h, e, h2, h3, h4, if_true, if_false, decide_true, decide_false]; rfl
theorem int_lt (n m : Int) : decide (n < m) = tst .Lt (compare n m) := by
  simp only [tst, compare, compareOfLessAndEq]
  by_cases h : n < m
  · have h2 : ¬ m < n := by omega
    have h3 : n ≤ m := by omega
    have h4 : ¬ m ≤ n := by omega
    simp only [h, h2, h3, h4, if_true, decide_true, decide_false]; rfl
  · by_cases e : n = m
    · subst e
      simp only [Nat.lt_irrefl, Int.lt_irrefl, Nat.le_refl, Int.le_refl, if_true, if_false, decide_true, decide_false]; rfl
    · have h2 : m < n := by omega
      have h3 : ¬ n ≤ m := by omega
      have h4 : m ≤ n := by omega
      simp only [h, e, h2, h3, h4, if_true, if_false, decide_true, decide_false]; rfl
theorem int_le (n m : Int) : decide (n ≤ m) = tst .LtE (compare n m) := by
  simp only [tst, compare, compareOfLessAndEq]
  by_cases h : n < m
  · have h2 : ¬ m < n := by omega
    have h3 : n ≤ m := by omega
    have h4 : ¬ m ≤ n := by omega
    simp only [h, h2, h3, h4, if_true, decide_true, decide_false]; rfl
  · by_cases e : n = m
    · subst e
      simp only [Nat.lt_irrefl, Int.lt_irrefl, Nat.le_refl, Int.le_refl, if_true, if_false, decide_true, decide_false]; rfl
    · have h2 : m < n := by omega
      have h3 : ¬ n ≤ m := by omega
      have h4 : m ≤ n := by omega
      simp only [h, e, h2, h3, h4, if_true, if_false, decide_true, decide_false]; rfl
theorem int_gt (n m : Int) : decide (m < n) = tst .Gt (compare n m) := by
  simp only [tst, compare, compareOfLessAndEq]
  by_cases h : n < m
  · have h2 : ¬ m < n := by omega
    have h3 : n ≤ m := by omega
    have h4 : ¬ m ≤ n := by omega
    simp only [h, h2, h3, h4, if_true, decide_true, decide_false]; rfl
  · by_cases e : n = m
    · subst e
      simp only [Nat.lt_irrefl, Int.lt_irrefl, Nat.le_refl, Int.le_refl, if_true, if_false, decide_true, decide_false]; rfl
    · have h2 : m < n := by omega
      have h3 : ¬ n ≤ m := by omega
      have h4 : m ≤ n := by omega
      simp only [h, e, h2, h3, h4, if_true, if_false, decide_true, decide_false]; rfl
theorem int_ge (n m : Int) : decide (m ≤ n) = tst .GtE (compare n m) := by
  simp only [tst, compare, compareOfLessAndEq]
  by_cases h : n < m
  · have h2 : ¬ m < n := by omega
    have h3 : n ≤ m := by omega
    have h4 : ¬ m ≤ n := by omega
    simp only [h, h2, h3, h4, if_true, decide_true, decide_false]; rfl
  · by_cases e : n = m
    · subst e
      simp only [Nat.lt_irrefl, Int.lt_irrefl, Nat.le_refl, Int.le_refl, if_true, if_false, decide_true, decide_false]; rfl
    · have h2 : m < n := by omega
      have h3 : ¬ n ≤ m := by omega
      have h4 : m ≤ n := by omega
      simp only [h, e, h2, h3, h4, if_true, if_false, decide_true, decide_false]; rfl
/-- < and its like, of ints and of tuples of such -/
theorem rc_ord (op : CmpOp) (hop : op = .Lt ∨ op = .LtE ∨ op = .Gt ∨ op = .GtE) : ∀ (n : Nat) (p q : PyData) (A : Around) (s : Shared) (v u : Value) (as bs : List Addr), p.depth ≤ n → Reads s.heap v p as → Reads s.heap u q bs → okP p q = true → p.canLay0 = true → q.canLay0 = true →
    A.units + n < cLine → Ob.RcOp op A s v u (tst op (cmpP p q)) := by
  intro n
  induction n with
  | zero =>
    intro p q A s v u as bs hd r1 r2 hk _ _ _
    cases p with
    | int i => cases q with
      | int j =>
        cases r1; cases r2
        simp only [cmpP]
        rcases hop with rfl | rfl | rfl | rfl
        · rw [← int_lt]; exact .lt_int _ _ _ _
        · rw [← int_le]; exact .le_int _ _ _ _
        · rw [← int_gt]; exact .gt_int _ _ _ _
        · rw [← int_ge]; exact .ge_int _ _ _ _
      | _ => simp [okP] at hk
    | tuple xs => simp [PyData.depth] at hd
    | _ => simp [okP] at hk
  | succ n ih =>
    intro p q A s v u as bs hd r1 r2 hk c1 c2 hu
    cases p with
    | int i => cases q with
      | int j =>
        cases r1; cases r2
        simp only [cmpP]
        rcases hop with rfl | rfl | rfl | rfl
        · rw [← int_lt]; exact .lt_int _ _ _ _
        · rw [← int_le]; exact .le_int _ _ _ _
        · rw [← int_gt]; exact .gt_int _ _ _ _
        · rw [← int_ge]; exact .ge_int _ _ _ _
      | _ => simp [okP] at hk
    | tuple xs => cases q with
      | tuple ys =>
        simp only [okP] at hk
        simp only [PyData.canLay0] at c1 c2
        simp only [cmpP]
        cases r1 with
        | tuple a1 a2 a3 ra =>
          cases r2 with
          | tuple b1 b2 b3 rb =>
            rename_i a oa va na b ob vb nb
            obtain ⟨l1, g1⟩ := readsAll_at ra
            obtain ⟨l2, g2⟩ := readsAll_at rb
            rw [Array.length_toList] at l1 l2
            have hdx : ∀ x ∈ xs, x.depth ≤ n := fun x hx => by
              have h1 := PyData.depth_le_depthAll xs x hx
              have h2 : (PyData.tuple xs).depth = PyData.depthAll xs + 1 := by simp [PyData.depth]
              omega
            have key : ∀ (j : Nat) (h1 : j < va.size) (h2 : j < vb.size), ∃ x y, xs[j]? = some x ∧ ys[j]? = some y ∧ SeqAt.EqAt A.in1 s va[j] vb[j] (cmpP x y == .eq) ∧ Ob.RcOp op A.in1 s va[j] vb[j] (tst op (cmpP x y)) := fun j h1 h2 => by
              obtain ⟨x, cs, e1, rx⟩ := g1 j va[j] (by simp [h1])
              obtain ⟨y, ds, e2, ry⟩ := g2 j vb[j] (by simp [h2])
              have hx := canLay_mem c1 (List.mem_of_getElem? e1)
              have hy := canLay_mem c2 (List.mem_of_getElem? e2)
              have hok := okPs_at j hk e1 e2
              have hdj := hdx x (List.mem_of_getElem? e1)
              have huu : A.in1.units = A.units + 1 := rfl
              refine ⟨x, y, e1, e2, ?_, ih x y A.in1 s _ _ cs ds hdj rx ry hok hx hy (by omega)⟩
              rw [← okP_eqv x y hok]
              exact SeqAt.eqAt_reads x y A.in1 s _ _ cs ds rx ry hx hy (by have := Nat.min_le_left x.depth y.depth; omega)
            let e : Nat → Bool := fun j => match xs[j]?, ys[j]? with
              | some x, some y => cmpP x y == .eq
              | _, _ => false
            let r : Nat → Bool := fun j => match xs[j]?, ys[j]? with
              | some x, some y => tst op (cmpP x y)
              | _, _ => false
            have he : ∀ j (h1 : j < va.size) (h2 : j < vb.size), SeqAt.EqAt A.in1 s va[j] vb[j] (e j) := fun j h1 h2 => by
              obtain ⟨x, y, e1, e2, h3, _⟩ := key j h1 h2
              have : e j = (cmpP x y == .eq) := by simp only [e, e1, e2]
              rw [this]; exact h3
            have hr : ∀ j (h1 : j < va.size) (h2 : j < vb.size), e j = false → Ob.RcOp op A.in1 s va[j] vb[j] (r j) := fun j h1 h2 _ => by
              obtain ⟨x, y, e1, e2, _, h3⟩ := key j h1 h2
              have : r j = tst op (cmpP x y) := by simp only [r, e1, e2]
              rw [this]; exact h3
            have fin : ∀ z, z = tst op (compare xs.length ys.length) → Ob.lexAt e r z 0 (min va.size vb.size) = tst op (cmpPs xs ys) := fun z hz => by
              rw [l1, l2]
              exact lexAt_cmp (tst op) z xs ys 0 e r (fun j x y hx hy => by
                rw [Nat.zero_add]
                exact ⟨by simp only [e, hx, hy], fun _ => by simp only [r, hx, hy]⟩) hz
            have t1 : s.heap.IsTuple a va := ⟨_, a1, a2, _, a3⟩
            have t2 : s.heap.IsTuple b vb := ⟨_, b1, b2, _, b3⟩
            rcases hop with rfl | rfl | rfl | rfl
            · rw [← fin _ (len_lt _ _), ← l1, ← l2]; exact .tuples_lt t1 t2 (by omega) he hr
            · rw [← fin _ (len_le _ _), ← l1, ← l2]; exact .tuples_le t1 t2 (by omega) he hr
            · rw [← fin _ (len_gt _ _), ← l1, ← l2]; exact .tuples_gt t1 t2 (by omega) he hr
            · rw [← fin _ (len_ge _ _), ← l1, ← l2]; exact .tuples_ge t1 t2 (by omega) he hr
      | _ => simp [okP] at hk
    | _ => simp [okP] at hk
end En

/-! The engine, part kb: sorted() of tuples. -/
namespace En
open PySem PySem.Spec PyProof.Rows L2
open PySem.W (KatLex KatTups kat_lt kat_kind kat_cons kat_go kat_yes kat_no kat_nil kat_one Looks KdlSrc)
/-- sorted, equal ones in their order -/
theorem stb_merge {α : Type} {lt : α → α → Bool} (O : SrtO.Swo lt) (le : α → α → Bool) (hle : ∀ a b, le a b = !lt b a) (l : List α) : SrtO.Srtd lt (l.mergeSort le) ∧ SrtO.Stb lt (l.mergeSort le) l := by
  have tr : ∀ a b c, le a b = true → le b c = true → le a c = true := fun a b c h1 h2 => by
    rw [hle] at *
    have := O.tr a b c (by simpa using h1) (by simpa using h2)
    simp [this]
  have tot : ∀ a b, (le a b || le b a) = true := fun a b => by
    rw [hle, hle]
    cases e : lt b a with
    | false => rfl
    | true => rw [O.asym b a e]; rfl
  have pw := List.pairwise_mergeSort tr tot l
  refine ⟨pw.imp fun {a b} h => by rw [hle] at h; simpa using h, List.mergeSort_perm l le, fun x => ?_⟩
  have hsub : (l.filter (SrtO.eqv lt x)).Sublist (l.mergeSort le) := by
    refine List.sublist_mergeSort tr tot ?_ List.filter_sublist
    rw [List.pairwise_iff_forall_sublist]
    intro a b hab
    have ha : a ∈ l.filter (SrtO.eqv lt x) := hab.subset (by simp)
    have hb : b ∈ l.filter (SrtO.eqv lt x) := hab.subset (by simp)
    have ea := (List.mem_filter.mp ha).2
    have eb := (List.mem_filter.mp hb).2
    unfold SrtO.eqv at ea eb
    simp only [Bool.and_eq_true, Bool.not_eq_true'] at ea eb
    rw [hle, O.tr a x b ea.1 eb.2]; rfl
  have h2 : (l.filter (SrtO.eqv lt x)).Sublist ((l.mergeSort le).filter (SrtO.eqv lt x)) := by
    have := hsub.filter (SrtO.eqv lt x)
    rwa [List.filter_filter, show (fun a => SrtO.eqv lt x a && SrtO.eqv lt x a) = SrtO.eqv lt x from funext fun a => Bool.and_self _] at this
  exact (h2.eq_of_length (((List.mergeSort_perm l le).filter _).length_eq).symm).symm
section
variable {prog : Program} {w : World} {A : Around} {E : Value → Shared → Prop} {s : Shared}
/-- the loop of the sort's comparison -/
theorem kat_run (b fin : Bool) (Q : Bool → Shared → Prop) (e r : Nat → Bool) : ∀ (l : List (Value × Value)) (i : Nat), (∀ (j : Nat) (p : Value × Value), l[j]? = some p → SeqAt.EqAt A s p.1 p.2 (e (i + j)) ∧ (e (i + j) = false → ∀ (Q' : Bool → Shared → Prop), Q' (r (i + j)) s → wpAny (model prog w) A (oneLt' (b && (i + j) == 0) p.1 p.2) Q' (fun _ _ => False) s)) →
    Q (Ob.lexAt e r fin i l.length) s → KatLex prog w A b fin Q l i s
  | [], i, _, h => kat_nil h
  | (p, q) :: l, i, hl, h => by
    obtain ⟨h1, h2⟩ := hl 0 (p, q) rfl
    rw [Nat.add_zero] at h1 h2
    rw [List.length_cons, Ob.lexAt_succ] at h
    refine kat_cons (h1 prog w _ _ ?_)
    cases he : e i with
    | true =>
      rw [he, if_pos rfl] at h
      refine kat_yes (kat_run b fin Q e r l (i + 1) (fun j p' hp => ?_) h)
      have := hl (j + 1) p' (by simpa using hp)
      rwa [show i + (j + 1) = i + 1 + j by omega] at this
    | false =>
      rw [he, if_neg (by simp)] at h
      exact kat_no (h2 he Q h)
theorem rd_tup {h : Heap} {v : Value} {xs : List PyData} {as : List Addr} (r : Reads h v (.tuple xs) as) : ∃ a o vs n, v = .ref a ∧ h.get? a = some o ∧ o.cls = .type "tuple" ∧ o.data = .seq vs n ∧ ReadsAll h vs.toList xs as := by
  cases r with
  | tuple a1 a2 a3 ra => exact ⟨_, _, _, _, rfl, a1, a2, a3, ra⟩
/-- tuples compared as the sort does -/
theorem tup_cmp {vs : List Value} {k : Value → PyData} {b : Bool} (hp : ∀ v ∈ vs, ∃ as, Reads s.heap v (k v) as) (hc : ∀ v ∈ vs, (k v).canLay0 = true ∧ (k v).depth ≤ 8) (hok : ∀ v ∈ vs, ∀ u ∈ vs, okP (k v) (k u) = true) (hf : ∀ v ∈ vs, fstK (k v) = some b) (hu : A.units + 8 < cLine) :
    SrtO.Cmp prog w A s (tuples' b) (fun p => p.1 ∈ vs) (SrtO.lt2 fun v u => ltP (k v) (k u)) := by
  intro p q hm hm'
  obtain ⟨as, r1⟩ := hp _ hm
  obtain ⟨bs, r2⟩ := hp _ hm'
  have c1 := hc _ hm
  have c2 := hc _ hm'
  have f1 := hf _ hm
  have f2 := hf _ hm'
  have ok := hok _ hm _ hm'
  show wpAny (model prog w) A (keyLt' (tuples' b) p.1 q.1) (fun r s' => s' = s ∧ r = ltP (k p.1) (k q.1)) (fun _ _ => False) s
  generalize k p.1 = x at *
  generalize k q.1 = y at *
  cases x with
  | tuple xs => cases y with
    | tuple ys =>
      obtain ⟨a, oa, va, na, e1, a1, a2, a3, ra⟩ := rd_tup r1
      obtain ⟨a', ob, vb, nb, e2, b1, b2, b3, rb⟩ := rd_tup r2
      rw [e1, e2]
      refine kat_lt a1 a3 b1 b3 ?_
      simp only [okP] at ok
      simp only [PyData.canLay0] at c1 c2
      obtain ⟨l1, g1⟩ := readsAll_at ra
      obtain ⟨l2, g2⟩ := readsAll_at rb
      rw [Array.length_toList] at l1 l2
      have hdx : ∀ x ∈ xs, x.depth ≤ 7 := fun x hx => by
        have h1 := PyData.depth_le_depthAll xs x hx
        have h2 : (PyData.tuple xs).depth = PyData.depthAll xs + 1 := by simp [PyData.depth]
        omega
      let e : Nat → Bool := fun j => match xs[j]?, ys[j]? with
        | some x, some y => cmpP x y == .eq
        | _, _ => false
      let r : Nat → Bool := fun j => match xs[j]?, ys[j]? with
        | some x, some y => tst .Lt (cmpP x y)
        | _, _ => false
      refine kat_run b _ _ e r _ 0 (fun j pq hj => ?_) ?_
      · rw [Nat.zero_add]
        have hz : va.toList[j]? = some pq.1 ∧ vb.toList[j]? = some pq.2 := by
          rw [List.getElem?_zip_eq_some] at hj; exact hj
        obtain ⟨x, cs, e1, rx⟩ := g1 j _ hz.1
        obtain ⟨y, ds, e2, ry⟩ := g2 j _ hz.2
        have hx := canLay_mem c1.1 (List.mem_of_getElem? e1)
        have hy := canLay_mem c2.1 (List.mem_of_getElem? e2)
        have hk := okPs_at j ok e1 e2
        have hdj := hdx x (List.mem_of_getElem? e1)
        have ee : e j = (cmpP x y == .eq) := by simp only [e, e1, e2]
        have er : r j = tst .Lt (cmpP x y) := by simp only [r, e1, e2]
        rw [ee, er]
        refine ⟨?_, fun _ Q' hq => ?_⟩
        · rw [← okP_eqv x y hk]
          exact SeqAt.eqAt_reads x y A s _ _ cs ds rx ry hx hy (by have := Nat.min_le_left x.depth y.depth; omega)
        · have gen : wpAny (model prog w) A (oneLt' false pq.1 pq.2) Q' (fun _ _ => False) s := kat_one _ _ (rc_ord .Lt (.inl rfl) 7 x y A s _ _ cs ds hdj rx ry hk hx hy (by omega) prog w _ _ hq)
          cases b with
          | false => simpa using gen
          | true =>
            cases j with
            | succ j => simpa using gen
            | zero =>
              cases xs with
              | nil => simp at e1
              | cons x0 xs =>
                simp at e1; subst e1
                cases ys with
                | nil => simp at e2
                | cons y0 ys =>
                  simp at e2; subst e2
                  cases x0 with
                  | int i => cases y0 with
                    | int i2 =>
                      obtain ⟨p1, p2⟩ := pq
                      cases rx; cases ry
                      refine PyProof.Rows.oneLt_int ?_
                      simp only [cmpP] at hq
                      rwa [← int_lt] at hq
                    | _ => simp [okP] at hk
                  | _ => simp [fstK] at f1
      · refine ⟨rfl, ?_⟩
        rw [List.length_zip, Array.length_toList, Array.length_toList, l1, l2]
        unfold ltP
        simp only [cmpP]
        exact lexAt_cmp (tst .Lt) _ xs ys 0 e r (fun j x y hx hy => by
          rw [Nat.zero_add]
          exact ⟨by simp only [e, hx, hy], fun _ => by simp only [r, hx, hy]⟩) (len_lt _ _)
    | _ => simp [okP] at ok
  | int i => simp [fstK] at f1
  | _ => simp [okP] at ok
theorem rd_firsts {h : Heap} {k : Value → PyData} {b : Bool} : ∀ {vs : List Value}, (∀ v ∈ vs, ∃ as, Reads h v (k v) as) → (∀ v ∈ vs, fstK (k v) = some b) → ∃ fs : List Value, KatTups h vs fs ∧ fs.length = vs.length ∧ ∀ f ∈ fs, if b = true then ∃ x t, f = Value.int x t else ∃ (q : Addr) (o : Obj), f = Value.ref q ∧ h.get? q = some o ∧ o.cls = .type "tuple"
  | [], _, _ => ⟨[], KatTups.nil, rfl, fun f hf => by simp at hf⟩
  | v :: vs, hp, hf => by
    obtain ⟨fs, kk, hl, hi⟩ := rd_firsts (vs := vs) (fun u hu => hp u (List.mem_cons_of_mem _ hu)) fun u hu => hf u (List.mem_cons_of_mem _ hu)
    obtain ⟨as, r⟩ := hp v (List.mem_cons_self ..)
    have f1 := hf v (List.mem_cons_self ..)
    generalize k v = x at r f1
    have hx : ∃ y ys, x = .tuple (y :: ys) := by
      unfold fstK at f1
      split at f1
      · exact ⟨_, _, rfl⟩
      · exact ⟨_, _, rfl⟩
      · cases f1
    obtain ⟨y, ys, rfl⟩ := hx
    obtain ⟨a, o, va, n, rfl, a1, a2, a3, ra⟩ := rd_tup r
    have : ∃ u us as1, va.toList = u :: us ∧ Reads h u y as1 := by
      generalize va.toList = l at ra
      cases ra with
      | cons r1 r2 => exact ⟨_, _, _, rfl, r1⟩
    obtain ⟨u, us, as1, ev, ru⟩ := this
    refine ⟨u :: fs, KatTups.cons a1 a2 a3 (by rw [← Array.getElem?_toList, ev]; rfl) kk, by simp [hl], fun f hf => ?_⟩
    rcases List.mem_cons.mp hf with rfl | hf
    · cases b with
      | true =>
        rw [if_pos rfl]
        cases y with
        | int i => cases ru; exact ⟨_, _, rfl⟩
        | tuple zs => simp [fstK] at f1
        | _ => simp [fstK] at f1
      | false =>
        rw [if_neg (by simp)]
        cases y with
        | tuple zs =>
          obtain ⟨q, oq, _, _, rfl, q1, q2, _⟩ := rd_tup ru
          exact ⟨q, oq, rfl, q1, q2⟩
        | int i => simp [fstK] at f1
        | _ => simp [fstK] at f1
    · exact hi f hf
/-- tuples stay where tuples stay -/
theorem reads_tup {h h' : Heap} (keep : ∀ b o, h.get? b = some o → o.cls = .type "tuple" → h'.get? b = some o) : ∀ (n : Nat) (p : PyData) (v : Value) (as : List Addr), p.depth ≤ n → okP p p = true → Reads h v p as → Reads h' v p as := by
  intro n
  induction n with
  | zero =>
    intro p v as hd ho r
    cases p with
    | int i => cases r; exact .int _ _
    | tuple xs => simp [PyData.depth] at hd
    | _ => simp [okP] at ho
  | succ n ih =>
    intro p v as hd ho r
    cases p with
    | int i => cases r; exact .int _ _
    | tuple xs =>
      cases r with
      | tuple a1 a2 a3 ra =>
        refine .tuple (keep _ _ a1 a2) a2 a3 ?_
        have hdx : ∀ x ∈ xs, x.depth ≤ n := fun x hx => by
          have h1 := PyData.depth_le_depthAll xs x hx
          have h2 : (PyData.tuple xs).depth = PyData.depthAll xs + 1 := by simp [PyData.depth]
          omega
        simp only [okP] at ho
        clear a1 a2 a3 hd
        rename_i va _
        generalize va.toList = l at ra
        have gen : ∀ (ys : List PyData) (l : List Value) (as : List Addr), (∀ x ∈ ys, x.depth ≤ n) → okPs ys ys = true → ReadsAll h l ys as → ReadsAll h' l ys as := by
          intro ys
          induction ys with
          | nil => intro l as _ _ r; cases r; exact .nil
          | cons y ys ihy =>
            intro l as hd ho r
            simp only [okPs, Bool.and_eq_true] at ho
            cases r with
            | cons r1 r2 => exact .cons (ih y _ _ (hd y (by simp)) ho.1 r1) (ihy _ _ (fun x hx => hd x (List.mem_cons_of_mem _ hx)) ho.2 r2)
        exact gen xs l _ hdx ho ra
    | _ => simp [okP] at ho
theorem tup_sortable {a : Addr} {vs : List Value} {k : Value → PyData} {b : Bool} (h0 : 0 < vs.length) (hp : ∀ v ∈ vs, ∃ as, Reads s.heap v (k v) as) (hc : ∀ v ∈ vs, (k v).canLay0 = true ∧ (k v).depth ≤ 8) (hok : ∀ v ∈ vs, ∀ u ∈ vs, okP (k v) (k u) = true) (hf : ∀ v ∈ vs, fstK (k v) = some b) (hu : A.units + 8 < cLine)
    (ha : ∀ o, s.heap.get? a = some o → o.cls ≠ .type "tuple") : SrtO.SortableO prog w A s a vs fun v u => ltP (k v) (k u) := by
  intro h' keep
  have hp' : ∀ v ∈ vs, ∃ as, Reads h' v (k v) as := fun v hm => by
    obtain ⟨as, r⟩ := hp v hm
    exact ⟨as, reads_tup (fun c o e ec => keep c o (fun z => by subst z; exact ha o e ec) e) 8 (k v) v as (hc v hm).2 (hok v hm v hm) r⟩
  obtain ⟨fs, h1, h2, h3⟩ := rd_firsts hp' hf
  refine ⟨tuples' b, fun Q E hq => ?_, tup_cmp (s := { s with heap := h' }) hp' hc hok hf hu⟩
  cases b with
  | true =>
    refine kat_kind (T := .type "int") h1 (by omega) (fun f hm => ?_) (by rfl) ?_
    · obtain ⟨x, t, rfl⟩ := h3 f hm
      exact Looks.now
    · have e : (Value.type "int" != Value.type "tuple") = true := by first | decide +kernel | rfl | decide
      rw [e]
      exact hq
  | false =>
    refine kat_kind (T := .type "tuple") h1 (by omega) (fun f hm => ?_) (by rfl) ?_
    · obtain ⟨q, o, rfl, ho, hc⟩ := h3 f hm
      have z : Looks (model prog w) h' (typeOf (.ref q)) o.cls := (Looks.ld ho).andThen .now
      rw [hc] at z
      exact z
    · have e : (Value.type "tuple" != Value.type "tuple") = false := by first | rfl | decide | simp
      rw [e]
      exact hq
end
end En

/-! The engine, part kc: sorted() of lists and dicts of tuples. -/
namespace En
open PySem PySem.Spec PyProof.Rows L2
open PySem.W (KdlSrc)
section
variable {prog : Program} {w : World} {A : Around} {E : Value → Shared → Prop} {s : Shared} {T : String} {r d : Addr} {n : Nat} {P : Nat → Value → Prop} {OK : Heap → Prop}
/-- what a dict (its keys) gives, in a list -/
theorem collectK {R : List Value → Shared → Prop} (K : KdlSrc prog w T r d n P OK) (hh : A.handled = none) (hok : OK s.heap) (hn : n ≤ sizeLine)
    (h : ∀ (h' : Heap) (tk : Nat) (vs : List Value), (∀ b o, s.heap.get? b = some o → h'.get? b = some o) → s.heap.objs.size < h'.objs.size → vs.length = n → (∀ j v, vs[j]? = some v → P j v) → R vs { s with heap := h', toks := tk }) :
    wpAny (model prog w) A (collect (.ref r)) R E s := by
  have hlt := K.there _ hok
  unfold collect
  refine wpAny_bind (wpAny_runValue (codeAny_builtin entry_proto_collect' ?_))
  rw [Around.under_plainId PySem.F.plain_proto_collect _]
  show wpAny _ A.in1 (newList [] >>= fun l => again (.builtin "list.__iadd__" ⟨[l, .ref r], []⟩)) _ _ s
  refine wpAny_bind (wpAny_newObj_type ?_)
  refine wpAny_pure ⟨plainId_quiet PySem.F.plain_list_iadd _, codeAny_builtin entry_list_iadd' ?_⟩
  rw [Around.under_plainId PySem.F.plain_list_iadd _]
  have hS₁ : (s.heap.push { cls := .type "list", data := .seq ([] : List Value).toArray }).get? s.heap.objs.size = some { cls := .type "list", data := .seq #[] } := Heap.get?_push_size _ rfl
  show wpAny _ A.in1 (Builtin.List.listExtendWith (.ref s.heap.objs.size) (.ref r) (.ref s.heap.objs.size)) _ _ _
  have fin : ∀ (h' : Heap) (tk : Nat) (acc' : Array Value) (c' : Nat), (∀ b o, b ≠ s.heap.objs.size → (s.heap.push { cls := .type "list", data := .seq ([] : List Value).toArray }).get? b = some o → h'.get? b = some o) → h'.get? s.heap.objs.size = some { cls := .type "list", dict := none, data := .seq acc' c', slots := #[] } → ItemsOf P acc' n → R acc'.toList { s with heap := h', toks := tk } := fun h' tk acc' c' hk hS' hacc =>
    h h' tk acc'.toList (fun b o e => hk b o (Nat.ne_of_lt (Heap.lt_size e)) (Heap.get?_push_of_some _ e)) (Heap.lt_size hS') (by rw [Array.length_toList]; exact hacc.1) fun j v e => hacc.2 j v (by rw [← Array.getElem?_toList]; exact e)
  have key := PySem.W.kdl_extend (prog := prog) (w := w) (A := A) (s := { s with heap := s.heap.push { cls := .type "list", data := .seq ([] : List Value).toArray } })
    (R := fun (q : Result) (s' : Shared) => ∃ (h' : Heap) (tk : Nat) (acc' : Array Value) (c' : Nat), q = .ok (.ret (.ref s.heap.objs.size)) ∧ s' = { s with heap := h', toks := tk } ∧
      (∀ b o, b ≠ s.heap.objs.size → (s.heap.push { cls := .type "list", data := .seq ([] : List Value).toArray }).get? b = some o → h'.get? b = some o) ∧ h'.get? s.heap.objs.size = some { cls := .type "list", dict := none, data := .seq acc' c', slots := #[] } ∧ ItemsOf P acc' n)
    K hh (K.keep _ _ hok fun b _ o e => Heap.get?_push_of_some _ e) s.heap.objs.size (Nat.ne_of_gt hlt.1) (Nat.ne_of_gt hlt.2) (.ref s.heap.objs.size) 0 hS₁
    (fun h' tk acc' c' hk hS' hacc => ⟨h', tk, acc', c', rfl, rfl, hk, hS', hacc⟩) hn
  refine wpAny_mono key (fun fin' s' x => ?_) fun e s' x => ?_
  · cases fin' with
    | done f =>
      obtain ⟨h', tk, acc', c', e, rfl, hk, hS', hacc⟩ := x
      cases e
      show wpAny _ A (load s.heap.objs.size >>= _) _ _ _
      refine wpAny_bind (wpAny_load hS' ?_)
      refine wpAny_pure ?_
      exact fin h' tk acc' c' hk hS' hacc
    | again c₁ =>
      refine ⟨x.1, codeAny_mono x.2 fun q s₂ y => ?_⟩
      obtain ⟨h', tk, acc', c', rfl, rfl, hk, hS', hacc⟩ := y
      show wpAny _ A (load s.heap.objs.size >>= _) _ _ _
      refine wpAny_bind (wpAny_load hS' ?_)
      refine wpAny_pure ?_
      exact fin h' tk acc' c' hk hS' hacc
  · obtain ⟨_, _, _, _, e', _⟩ := x
    cases e'
/-- sorted(d) -/
theorem sorted_src {Q : Value → Shared → Prop} {ltv : Value → Value → Bool} (O : SrtO.Swo ltv) (K : KdlSrc prog w T r d n P OK) (hh : A.handled = none) (hok : OK s.heap) (hn : n ≤ sizeLine)
    (hS : ∀ vs : List Value, vs.length = n → (∀ j v, vs[j]? = some v → P j v) → 2 ≤ vs.length → ∀ (h₁ : Heap) (tk : Nat) (a : Addr), h₁.get? a = some (seqObj "list" vs.toArray 0) → (∀ b o, s.heap.get? b = some o → b ≠ a ∧ h₁.get? b = some o) → SrtO.SortableO prog w A.in1.in1 { s with heap := h₁, toks := tk } a vs ltv)
    (h : ∀ vs : List Value, vs.length = n → (∀ j v, vs[j]? = some v → P j v) → ∀ out : List Value, SrtO.Srtd ltv out → SrtO.Stb ltv out vs → ∀ (h' : Heap) (tk : Nat) (D : Addr), (∀ b o, s.heap.get? b = some o → h'.get? b = some o) → s.heap.objs.size ≤ D → (∃ m, h'.get? D = some (seqObj "list" out.toArray m)) → Q (.ref D) { s with heap := h', toks := tk }) :
    wpAny (model prog w) A (call (.builtin "sorted") [.ref r]) Q E s := by
  refine Calls.call_function_entry kind_sorted plain_sorted entry_sorted (args_sorted1 _) ?_
  unfold Builtin.«sorted»
  refine wpAny_bind (m := checkCount "sorted" 1 1 _) (wpAny_pure ?_)
  refine wpAny_bind (collectK (A := A.in1) K hh hok hn fun h' tk vs hk hlt hl hP => ?_)
  refine wpAny_bind (wpAny_newList ?_ (by rw [hl]; exact hn))
  have hoL : (h'.push (seqObj "list" vs.toArray 0)).get? h'.objs.size = some (seqObj "list" vs.toArray 0) := Heap.get?_push_size _ rfl
  have keep : ∀ b o, s.heap.get? b = some o → b ≠ h'.objs.size ∧ (h'.push (seqObj "list" vs.toArray 0)).get? b = some o := fun b o q =>
    ⟨Nat.ne_of_lt (Heap.lt_size (hk b o q)), Heap.get?_push_of_some _ (hk b o q)⟩
  show wpAny _ _ _ _ _ { s with heap := h'.push (seqObj "list" vs.toArray 0), toks := tk }
  refine wpAny_bind (wpAny_holding (wpAny_call_entry slot_list_sort ⟨_, hoL, rfl⟩ entry_list_sort (SrtO.list_sort_ord O hoL (by rw [hl]; exact hn) (fun h2 => hS vs hl hP h2 _ tk _ hoL keep) fun out hs hb => ⟨_, rfl, ?_⟩) (args_list_sort _)))
  refine wpAny_pure ⟨_, rfl, h vs hl hP out hs hb _ tk h'.objs.size (fun b o e => ?_) (Nat.le_of_lt hlt) (sortedHeap_at hoL)⟩
  obtain ⟨k1, k2⟩ := keep b o e
  show (sortedHeap (h'.push (seqObj "list" vs.toArray 0)) h'.objs.size vs out.toArray).get? b = some o
  rw [sortedHeap_old k1 (Heap.lt_size k2)]
  exact k2
end
theorem leP_lt (x y : PyData) : leP x y = !ltP y x := by
  unfold leP ltP
  rw [cmpP_swap x y]
  cases cmpP x y <;> rfl
theorem sort_out {α : Type} (L : List α) (val : α → Value) (key : Value → PyData) {out : List Value} (hs : SrtO.Srtd (fun v u => ltP (key v) (key u)) out) (hb : SrtO.Stb (fun v u => ltP (key v) (key u)) out (L.map val)) : out = (L.mergeSort fun a b => leP (key (val a)) (key (val b))).map val := by
  obtain ⟨h1, h2⟩ := stb_merge (ltP_swo fun a : α => key (val a)) (fun a b => leP (key (val a)) (key (val b))) (fun a b => leP_lt _ _) L
  have O := ltP_swo (fun v : Value => key v)
  have h3 := SrtO.Stb.map (lt := fun v u => ltP (key v) (key u)) O val h2
  exact SrtO.stb_uniq O hs (SrtO.srtd_map h1) (hb.trans ⟨h3.perm.symm, fun x => (h3.cls x).symm⟩)
theorem triples {R : Rx} {P : Addr → Prop} {H : Hp} : ∀ {ds : List D} {xs : List V} {us : List Value}, Reps R P H ds xs → Vals xs us → ∃ L : List (D × V × Value), ds = L.map (·.1) ∧ xs = L.map (·.2.1) ∧ us = L.map (·.2.2) ∧ ∀ a ∈ L, Rep R P H a.1 a.2.1 ∧ RelV a.2.1 a.2.2
  | [], _, _, h, v => by
    rw [h.invNil] at v
    cases v
    exact ⟨[], rfl, h.invNil, rfl, by simp⟩
  | d :: ds, _, _, h, v => by
    obtain ⟨x, r, rfl, hx, t⟩ := h.inv
    cases v with
    | cons v1 v2 =>
      obtain ⟨L, e1, e2, e3, h4⟩ := triples t v2
      refine ⟨(d, x, _) :: L, by rw [e1]; rfl, by rw [e2]; rfl, by rw [e3]; rfl, fun a ha => ?_⟩
      rcases List.mem_cons.mp ha with rfl | ha
      · exact ⟨hx, v1⟩
      · exact h4 a ha
theorem Reps.ofL {R : Rx} {P : Addr → Prop} {H : Hp} {α : Type} (f : α → D) (g : α → V) : ∀ {L : List α}, (∀ a ∈ L, Rep R P H (f a) (g a)) → Reps R P H (L.map f) (L.map g)
  | [], _ => .nil
  | a :: L, h => .cons (h a (by simp)) (Reps.ofL f g fun b hb => h b (List.mem_cons_of_mem _ hb))
theorem vals_ofL {α : Type} (f : α → V) (g : α → Value) : ∀ {L : List α}, (∀ a ∈ L, RelV (f a) (g a)) → Vals (L.map f) (L.map g)
  | [], _ => .nil
  | a :: L, h => .cons (h a (by simp)) (vals_ofL f g fun b hb => h b (List.mem_cons_of_mem _ hb))
theorem pys_mem : ∀ {ds : List D} {ps : List PyData} {d : D}, pys ds = some ps → d ∈ ds → ∃ p ∈ ps, py d = some p
  | [], _, _, _, h => by cases h
  | e :: ds, ps, d, h, hm => by
    cases q : py e with
    | none => simp [pys, q] at h
    | some p =>
      cases q2 : pys ds with
      | none => simp [pys, q, q2] at h
      | some ps' =>
        simp [pys, q, q2] at h; subst h
        rcases List.mem_cons.mp hm with rfl | hm
        · exact ⟨p, by simp, q⟩
        · obtain ⟨p', h1, h2⟩ := pys_mem q2 hm
          exact ⟨p', List.mem_cons_of_mem _ h1, h2⟩
theorem sortOk_of {ps : List PyData} (h : sortOk ps = true) : ∃ b, (∀ p ∈ ps, fstK p = some b) ∧ ∀ p ∈ ps, (p.canLay0 = true ∧ p.depth ≤ 8) ∧ ∀ q ∈ ps, okP p q = true := by
  simp only [sortOk, Bool.and_eq_true, Bool.or_eq_true, List.all_eq_true, decide_eq_true_eq] at h
  obtain ⟨h1, h2⟩ := h
  rcases h1 with h1 | h1
  · exact ⟨true, fun p hp => by simpa using h1 p hp, h2⟩
  · exact ⟨false, fun p hp => by simpa using h1 p hp, h2⟩
section
variable {X : Cx} {pins : List (Addr × Obj)} {σ : L2.St} {H : Hp} {s : Shared}
/-- a list that stands, sorted -/
theorem sort_mem (I : L2.Inv X pins σ H s) {bx : Option (Addr × Addr)} {P : Addr → Prop} {L : List (D × V × Value)} (hL : ∀ a ∈ L, Rep (RX X bx) P H a.1 a.2.1 ∧ RelV a.2.1 a.2.2) {ps : List PyData} (hp : pys (L.map (·.1)) = some ps) (hok : sortOk ps = true) :
    ∃ b, (∀ v ∈ L.map (·.2.2), (∃ as, Reads s.heap v (SeqAt.readOf s.heap v) as) ∧ ((SeqAt.readOf s.heap v).canLay0 = true ∧ (SeqAt.readOf s.heap v).depth ≤ 8) ∧ fstK (SeqAt.readOf s.heap v) = some b ∧ ∀ u ∈ L.map (·.2.2), okP (SeqAt.readOf s.heap v) (SeqAt.readOf s.heap u) = true) ∧
      ∀ a ∈ L, ∀ c ∈ L, leP (SeqAt.readOf s.heap a.2.2) (SeqAt.readOf s.heap c.2.2) = leD a.1 c.1 := by
  obtain ⟨b, hf, hh⟩ := sortOk_of hok
  have each : ∀ a ∈ L, ∃ p ∈ ps, py a.1 = some p ∧ SeqAt.readOf s.heap a.2.2 = p ∧ ∃ as, Reads s.heap a.2.2 p as := fun a ha => by
    obtain ⟨p, hm, e⟩ := pys_mem hp (List.mem_map_of_mem (f := (·.1)) ha)
    obtain ⟨r1, r2⟩ := Rep.dp a.1 a.2.1 p (hL a ha).1 e
    obtain ⟨as, r3⟩ := Dp.reads I p a.2.1 a.2.2 r1 (hL a ha).2
    exact ⟨p, hm, e, SeqAt.readOf_eq r2 r3, as, r3⟩
  refine ⟨b, fun v hv => ?_, fun a ha c hc => ?_⟩
  · obtain ⟨a, ha, rfl⟩ := List.mem_map.mp hv
    obtain ⟨p, hm, e, er, as, rd⟩ := each a ha
    rw [er]
    refine ⟨⟨as, rd⟩, (hh p hm).1, hf p hm, fun u hu => ?_⟩
    obtain ⟨c, hc, rfl⟩ := List.mem_map.mp hu
    obtain ⟨q, hm2, _, er2, _⟩ := each c hc
    rw [er2]
    exact (hh p hm).2 q hm2
  · obtain ⟨p, _, e, er, _⟩ := each a ha
    obtain ⟨q, _, e2, er2, _⟩ := each c hc
    rw [er, er2, leD, e, e2]
theorem sort_fin (I : L2.Inv X pins σ H s) {bx : Option (Addr × Addr)} {P : Addr → Prop} {L : List (D × V × Value)} (hL : ∀ a ∈ L, Rep (RX X bx) P H a.1 a.2.1 ∧ RelV a.2.1 a.2.2) (hz : L.length ≤ sizeLine)
    (hle : ∀ a ∈ L, ∀ c ∈ L, leP (SeqAt.readOf s.heap a.2.2) (SeqAt.readOf s.heap c.2.2) = leD a.1 c.1) {out : List Value} (hs : SrtO.Srtd (fun v u => ltP (SeqAt.readOf s.heap v) (SeqAt.readOf s.heap u)) out) (hb : SrtO.Stb (fun v u => ltP (SeqAt.readOf s.heap v) (SeqAt.readOf s.heap u)) out (L.map (·.2.2)))
    {h' : Heap} {tk : Nat} {d : Addr} (kp : ∀ b o, s.heap.get? b = some o → h'.get? b = some o) (hd : s.heap.objs.size ≤ d) (hn : ∃ m, h'.get? d = some (seqObj "list" out.toArray m)) :
    ∃ ys, H d = none ∧ Reps (RX X bx) P H ((L.map (·.1)).mergeSort leD) ys ∧ L2.Inv X pins σ (upd H d (.lst ys)) { s with heap := h', toks := tk } := by
  have e := sort_out L (·.2.2) (SeqAt.readOf s.heap) hs hb
  let M := L.mergeSort fun a c => leP (SeqAt.readOf s.heap a.2.2) (SeqAt.readOf s.heap c.2.2)
  have hM : ∀ a ∈ M, a ∈ L := fun a ha => (List.mergeSort_perm L _).mem_iff.mp ha
  have e1 : M.map (·.1) = (L.map (·.1)).mergeSort leD := List.map_mergeSort hle
  obtain ⟨m, hn⟩ := hn
  refine ⟨M.map (·.2.1), I.hok.fresh hd, ?_, I.laid (t' := tk) kp hd ⟨?_, out, m, ?_, hn⟩⟩
  · rw [← e1]
    exact Reps.ofL (·.1) (·.2.1) fun a ha => (hL a (hM a ha)).1
  · rw [List.length_map]
    exact Nat.le_trans (Nat.le_of_eq (List.mergeSort_perm L _).length_eq) hz
  · rw [e]
    exact vals_ofL (·.2.1) (·.2.2) fun a ha => (hL a (hM a ha)).2
theorem sort_list (hu : X.A.units + 65 < cLine) (I : L2.Inv X pins σ H s) {a : Addr} {xs : List V} (hsq : SqL X.K H a xs) {bx : Option (Addr × Addr)} {P : Addr → Prop} {ds : List D} {ps : List PyData} (r : Reps (RX X bx) P H ds xs) (hp : pys ds = some ps) (hok : sortOk ps = true) {Q : Value → Shared → Prop}
    (q : ∀ p ys, H p = none → Reps (RX X bx) P H (ds.mergeSort leD) ys → ∀ s', L2.Inv X pins σ (upd H p (.lst ys)) s' → Q (.ref p) s') :
    wpAny (model X.prog X.w) X.A (call (.builtin "sorted") [.ref a]) Q X.xe s := by
  obtain ⟨its, rv, hl, hz⟩ := I.list hsq
  obtain ⟨L, rfl, rfl, rfl, hL⟩ := triples r rv
  obtain ⟨b, hv, hle⟩ := sort_mem I hL hp hok
  rw [List.length_map] at hz
  refine SrtO.sorted_ord (ltP_swo (SeqAt.readOf s.heap)) hl.isList (by rw [List.length_map]; exact hz) (fun h2 h₁ a ha kk => ?_) fun out hs hb => ?_
  · refine tup_sortable (s := { s with heap := h₁ }) (k := SeqAt.readOf s.heap) (b := b) (by omega) (fun v hm => ?_) (fun v hm => (hv v hm).2.1) (fun v hm u hu => (hv v hm).2.2.2 u hu) (fun v hm => (hv v hm).2.2.1) (by show X.A.units + 1 + 1 + 8 < cLine; omega) fun o e => ?_
    · obtain ⟨as, rd⟩ := (hv v hm).1
      exact ⟨as, reads_tup (fun b o e _ => (kk b o e).2) 8 _ v as (hv v hm).2.1.2 ((hv v hm).2.2.2 v hm) rd⟩
    · have e' : some o = some (seqObj "list" _ 0) := e.symm.trans ha
      cases e'
      intro c
      exact absurd (Value.type.inj c) (by decide)
  · obtain ⟨ys, h1, h2, h3⟩ := sort_fin I hL hz hle hs hb (tk := s.toks) (fun b o e => sortedAll_old e) (Nat.le_succ _) (sortedAll_at s.heap _ out.toArray)
    exact q _ ys h1 h2 _ h3
/-- the keys of a dict, sorted -/
theorem key_reps {R : Rx} {P : Addr → Prop} {H : Hp} : ∀ {ds : List D} {ks : List Key} {ps : List PyData}, keysD ds = some ks → pys ds = some ps → okPs ps ps = true → Reps R P H ds (ks.map kV)
  | [], ks, ps, h, _, _ => by simp only [keysD, Option.some.injEq] at h; subst h; exact .nil
  | d :: ds, ks, ps, h, hp, ho => by
    obtain ⟨p1, p2, f1, f2, rfl⟩ : ∃ p r, py d = some p ∧ pys ds = some r ∧ ps = p :: r := by
      cases q : py d with
      | none => simp [pys, q] at hp
      | some p =>
        cases q2 : pys ds with
        | none => simp [pys, q, q2] at hp
        | some r => simp [pys, q, q2] at hp; exact ⟨p, r, rfl, rfl, hp.symm⟩
    simp only [okPs, Bool.and_eq_true] at ho
    cases hk : keyD d with
    | none => simp [keysD, hk] at h
    | some k =>
      cases hks : keysD ds with
      | none => simp [keysD, hk, hks] at h
      | some ks' =>
        simp [keysD, hk, hks] at h; subst h
        have := key_reps (R := R) (P := P) (H := H) hks f2 ho.2
        cases d with
        | int i =>
          simp only [keyD, Option.some.injEq] at hk; subst hk
          exact .cons (by simp only [Rep]; rfl) this
        | str x =>
          simp only [py, Option.some.injEq] at f1; subst f1
          simp [okP] at ho
        | _ => simp [keyD] at hk
theorem keys_triples {R : Rx} {P : Addr → Prop} {H : Hp} : ∀ {ks : List D} {kvs : List (List Key × V)} {xs : List (List Key × Addr × Value)} {ps : List PyData}, ks.map (fun k => match k with | .tup ds => keysD ds | _ => none) = kvs.map (fun kv => some kv.1) → KT H kvs xs → pys ks = some ps → (∀ p ∈ ps, okP p p = true) →
    ∃ L : List (D × V × Value), ks = L.map (·.1) ∧ xs.map (fun q => Value.ref q.2.1) = L.map (·.2.2) ∧ L.length = xs.length ∧ ∀ a ∈ L, Rep R P H a.1 a.2.1 ∧ RelV a.2.1 a.2.2
  | [], kvs, xs, ps, e, rel, _, _ => by
    cases kvs with
    | cons _ _ => simp at e
    | nil => cases rel; exact ⟨[], rfl, rfl, rfl, by simp⟩
  | k :: ks, kvs, xs, ps, e, rel, hp, ho => by
    cases kvs with
    | nil => simp at e
    | cons kv kvs =>
      simp only [List.map_cons, List.cons.injEq] at e
      cases rel with
      | cons r1 r2 =>
        rename_i q xs
        obtain ⟨p1, p2, f1, f2, rfl⟩ : ∃ p r, py k = some p ∧ pys ks = some r ∧ ps = p :: r := by
          cases q : py k with
          | none => simp [pys, q] at hp
          | some p =>
            cases q2 : pys ks with
            | none => simp [pys, q, q2] at hp
            | some r => simp [pys, q, q2] at hp; exact ⟨p, r, rfl, rfl, hp.symm⟩
        obtain ⟨L, e1, e2, e4, e3⟩ := keys_triples (R := R) (P := P) e.2 r2 f2 fun p hp => ho p (List.mem_cons_of_mem _ hp)
        refine ⟨(k, .ref q.2.1, .ref q.2.1) :: L, by rw [e1]; rfl, by rw [List.map_cons, e2]; rfl, by simp [e4], fun a ha => ?_⟩
        rcases List.mem_cons.mp ha with rfl | ha
        · refine ⟨?_, rfl⟩
          have ee := e.1
          cases k with
          | tup ds =>
            simp only at ee
            have hop := ho p1 (by simp)
            cases q2 : pys ds with
            | none => simp [py, q2] at f1
            | some ps2 =>
              simp [py, q2] at f1
              subst f1
              simp only [okP] at hop
              have := key_reps (R := R) (P := P) (H := H) ee q2 hop
              simp only [Rep]
              exact ⟨_, _, rfl, r1.2.1, this⟩
          | _ => simp at ee
        · exact e3 a ha
theorem sort_dict (hc : X.calm = true) (hu : X.A.units + 65 < cLine) (I : L2.Inv X pins σ H s) {a : Addr} {kvs : List (List Key × V)} (e : Rd H a (.dT kvs)) {bx : Option (Addr × Addr)} {P : Addr → Prop} {ks : List D} {ps : List PyData} (hk : ks.map (fun k => match k with | .tup ds => keysD ds | _ => none) = kvs.map (fun kv => some kv.1)) (hp : pys ks = some ps) (hok : sortOk ps = true) {Q : Value → Shared → Prop}
    (q : ∀ p ys, H p = none → Reps (RX X bx) P H (ks.mergeSort leD) ys → ∀ s', L2.Inv X pins σ (upd H p (.lst ys)) s' → Q (.ref p) s') :
    wpAny (model X.prog X.w) X.A (call (.builtin "sorted") [.ref a]) Q X.xe s := by
  obtain ⟨hz, hd, xs, rel, o, es, ep, ho, hex, hdat, hes, his, hnd⟩ := dt_rd I.hok e
  obtain ⟨_, _, hh'⟩ := sortOk_of hok
  obtain ⟨L, rfl, e2, e4, hL⟩ := keys_triples (R := RX X bx) (P := P) hk rel hp fun p hp => (hh' p hp).2 p hp
  obtain ⟨b, hv, hle⟩ := sort_mem I hL hp hok
  have hsz : es.size = xs.length := by rw [← Array.length_toList, hes, List.length_map]
  have hzL : L.length ≤ sizeLine := by rw [e4, ← Paired.length rel]; exact hz
  have all : ∀ vs : List Value, vs.length = es.size → (∀ j v, vs[j]? = some v → ∃ hi : j < es.size, v = es[j].key) → vs = L.map (·.2.2) := fun vs h1 h2 => by
    rw [← e2]
    apply List.ext_getElem?
    intro j
    cases hj : vs[j]? with
    | none =>
      rw [List.getElem?_eq_none_iff] at hj
      rw [eq_comm, List.getElem?_eq_none_iff, List.length_map]; omega
    | some v =>
      obtain ⟨hi, rfl⟩ := h2 j v hj
      have : es.toList[j]? = some es[j] := by simp [hi]
      rw [hes, List.getElem?_map] at this
      obtain ⟨x, h3, h4⟩ := Option.map_eq_some_iff.mp this
      rw [List.getElem?_map, h3, ← h4]
      rfl
  refine sorted_src (ltP_swo (SeqAt.readOf s.heap)) (KdlSrc.rawDict (es := es) (ep := ep) hd) (I.ok.hd hc) ⟨o, ho, hex, hdat⟩ (by rw [hsz, ← Paired.length rel]; exact hz) (fun vs h1 h2 hh2 h₁ tk a ha kk => ?_) fun vs h1 h2 out hs hb h' tk D kp hD hn => ?_
  · have ev := all vs h1 h2
    subst ev
    refine tup_sortable (s := { s with heap := h₁, toks := tk }) (k := SeqAt.readOf s.heap) (b := b) (by omega) (fun v hm => ?_) (fun v hm => (hv v hm).2.1) (fun v hm u hu => (hv v hm).2.2.2 u hu) (fun v hm => (hv v hm).2.2.1) (by show X.A.units + 1 + 1 + 8 < cLine; omega) fun o e => ?_
    · obtain ⟨as, rd⟩ := (hv v hm).1
      exact ⟨as, reads_tup (fun b o e _ => (kk b o e).2) 8 _ v as (hv v hm).2.1.2 ((hv v hm).2.2.2 v hm) rd⟩
    · have e' : some o = some (seqObj "list" _ 0) := e.symm.trans ha
      cases e'
      intro c
      exact absurd (Value.type.inj c) (by decide)
  · have ev := all vs h1 h2
    subst ev
    obtain ⟨ys, h1, h2, h3⟩ := sort_fin I hL hzL hle hs hb (tk := tk) kp hD hn
    exact q _ ys h1 h2 _ h3
end
end En

/-! The engine, part kd: dicts whose keys are numbers, or tuples. -/
namespace En
open PySem PySem.Spec PyProof.Rows L2
def kT (k : D) : Option (List Key) := match k with | .tup ds => keysD ds | _ => none
theorem keysD_cons {d : D} {ds : List D} {ks : List Key} (h : keysD (d :: ds) = some ks) : ∃ k r, keyD d = some k ∧ keysD ds = some r ∧ ks = k :: r := by
  cases hk : keyD d with
  | none => simp [keysD, hk] at h
  | some k =>
    cases hks : keysD ds with
    | none => simp [keysD, hk, hks] at h
    | some r => simp [keysD, hk, hks] at h; exact ⟨k, r, rfl, rfl, h.symm⟩
theorem keyD_eqv {d e : D} {k l : Key} (h : keyD d = some k) (g : keyD e = some l) : eqvD d e = decide (k = l) := by
  cases d with
  | int i =>
    simp only [keyD, Option.some.injEq] at h; subst h
    cases e with
    | int j => simp only [keyD, Option.some.injEq] at g; subst g; simp only [eqvD]; by_cases q : i = j <;> simp [q]
    | str j => simp only [keyD, Option.some.injEq] at g; subst g; simp [eqvD]
    | _ => simp [keyD] at g
  | str i =>
    simp only [keyD, Option.some.injEq] at h; subst h
    cases e with
    | int j => simp only [keyD, Option.some.injEq] at g; subst g; simp [eqvD]
    | str j => simp only [keyD, Option.some.injEq] at g; subst g; simp only [eqvD]; by_cases q : i = j <;> simp [q]
    | _ => simp [keyD] at g
  | _ => simp [keyD] at h
theorem keysD_eqv : ∀ {ds es : List D} {ks ls : List Key}, keysD ds = some ks → keysD es = some ls → eqvDs ds es = decide (ks = ls)
  | [], es, ks, ls, h, g => by
    simp only [keysD, Option.some.injEq] at h; subst h
    cases es with
    | nil => simp only [keysD, Option.some.injEq] at g; subst g; simp [eqvDs]
    | cons e es => obtain ⟨k, r, _, _, rfl⟩ := keysD_cons g; simp [eqvDs]
  | d :: ds, es, ks, ls, h, g => by
    obtain ⟨k, r, h1, h2, rfl⟩ := keysD_cons h
    cases es with
    | nil => simp only [keysD, Option.some.injEq] at g; subst g; simp [eqvDs]
    | cons e es =>
      obtain ⟨l, r', g1, g2, rfl⟩ := keysD_cons g
      simp only [eqvDs, keyD_eqv h1 g1, keysD_eqv h2 g2]
      by_cases q : k = l <;> by_cases q2 : r = r' <;> simp [q, q2]
theorem keys_vals {R : Rx} {P : Addr → Prop} {H : Hp} : ∀ {ds : List D} {ks : List Key} {xs : List V}, keysD ds = some ks → Reps R P H ds xs → xs = ks.map kV
  | [], ks, xs, h, r => by simp only [keysD, Option.some.injEq] at h; subst h; exact r.invNil
  | d :: ds, ks, xs, h, r => by
    obtain ⟨k, t, h1, h2, rfl⟩ := keysD_cons h
    obtain ⟨x, rv, rfl, hx, ht⟩ := r.inv
    rw [keys_vals h2 ht]
    cases d with
    | int i => simp only [keyD, Option.some.injEq] at h1; subst h1; simp only [Rep] at hx; subst hx; rfl
    | str i => simp only [keyD, Option.some.injEq] at h1; subst h1; simp only [Rep] at hx; obtain ⟨rfl, _⟩ := hx; rfl
    | _ => simp [keyD] at h1
theorem any_dT {ds : List D} {k0 : List Key} (h0 : keysD ds = some k0) : ∀ {ks : List D} {kvs : List (List Key × V)}, ks.map kT = kvs.map (fun kv => some kv.1) → (ks.any fun k => keyEq k (.tup ds)) = (valV kvs k0).isSome
  | [], kvs, e => by
    cases kvs with
    | nil => rfl
    | cons _ _ => simp at e
  | k :: ks, kvs, e => by
    cases kvs with
    | nil => simp at e
    | cons kv kvs =>
      simp only [List.map_cons, List.cons.injEq] at e
      have ih := any_dT h0 e.2
      rw [List.any_cons, ih]
      cases k with
      | tup es =>
        have e1 : keysD es = some kv.1 := e.1
        simp only [keyEq, keysD_eqv e1 h0]
        by_cases q : kv.1 = k0
        · rw [valV_pos q]; simp [q]
        · rw [valV_neg q]; simp [q]
      | _ => simp [kT] at e
theorem any_dK {i : Int} : ∀ {ks : List D} {kvs : List (Key × V)}, ks.map keyD = kvs.map (fun kv => some kv.1) → (ks.any fun k => keyEq k (.int i)) = (valV kvs (.inl i)).isSome
  | [], kvs, e => by
    cases kvs with
    | nil => rfl
    | cons _ _ => simp at e
  | k :: ks, kvs, e => by
    cases kvs with
    | nil => simp at e
    | cons kv kvs =>
      simp only [List.map_cons, List.cons.injEq] at e
      have ih := any_dK (i := i) e.2
      rw [List.any_cons, ih]
      have key : keyEq k (.int i) = decide (kv.1 = .inl i) := by
        cases k with
        | int j => simp only [keyD, Option.some.injEq] at e; rw [← e.1]; simp only [keyEq]; by_cases q : j = i <;> simp [q]
        | str j => simp only [keyD, Option.some.injEq] at e; rw [← e.1]; simp [keyEq]
        | _ => simp [keyD] at e
      rw [key]
      by_cases q : kv.1 = .inl i
      · rw [valV_pos q]; simp [q]
      · rw [valV_neg q]; simp [q]
theorem valV_lookT {R : Rx} {P : Addr → Prop} {H : Hp} {es : List D} {k0 : List Key} {d : D} (h0 : keysD es = some k0) : ∀ {ks ds : List D} {kvs : List (List Key × V)}, ks.map kT = kvs.map (fun kv => some kv.1) → Reps R P H ds (kvs.map (·.2)) → lookD (.tup es) ks ds = some d → ∃ x, valV kvs k0 = some x ∧ Rep R P H d x
  | [], _, _, _, _, h => by simp [lookD] at h
  | k :: ks, [], _, _, _, h => by simp [lookD] at h
  | k :: ks, d' :: ds, [], e, r, h => by simp at e
  | k :: ks, d' :: ds, p :: kvs, e, r, h => by
    simp only [List.map_cons, List.cons.injEq] at e
    obtain ⟨x, rv, e2, hx, t⟩ := r.inv
    simp only [List.map_cons, List.cons.injEq] at e2
    obtain ⟨rfl, rfl⟩ := e2
    have key : keyEq k (.tup es) = decide (p.1 = k0) := by
      cases k with
      | tup fs => simp only [keyEq]; exact keysD_eqv e.1 h0
      | _ => simp [kT] at e
    simp only [lookD] at h
    by_cases q : p.1 = k0
    · rw [key, if_pos (by simp [q])] at h
      simp only [Option.some.injEq] at h; subst h
      exact ⟨p.2, valV_pos q, hx⟩
    · rw [key, if_neg (by simp [q])] at h
      rw [valV_neg q]
      exact valV_lookT h0 e.2 t h
/-- a key that is there, put -/
theorem put_len {α : Type} (f : D → Option α) : True := trivial
theorem putT {R : Rx} {P : Addr → Prop} {H : Hp} {es : List D} {k0 : List Key} {d : D} {y : V} (h0 : keysD es = some k0) (hy : Rep R P H d y) : ∀ {ks ds : List D} {kvs : List (List Key × V)}, (kvs.map (·.1)).Nodup → ks.map kT = kvs.map (fun kv => some kv.1) → Reps R P H ds (kvs.map (·.2)) →
    (putD (.tup es) d ks ds).1.map kT = (putK kvs k0 y).map (fun kv => some kv.1) ∧ Reps R P H (putD (.tup es) d ks ds).2 ((putK kvs k0 y).map (·.2))
  | [], ds, [], _, e, r => by
    simp only [List.map_nil] at r
    refine ⟨by simp [putD, kT, h0, putK], ?_⟩
    simp only [putD, putK, List.any_nil, Bool.false_eq_true, if_false, List.nil_append, List.map_cons, List.map_nil]
    exact .cons hy .nil
  | [], ds, _ :: _, _, e, r => by simp at e
  | k :: ks, [], [], _, e, r => by simp at e
  | k :: ks, [], _ :: _, _, e, r => by have := r.length; simp at this
  | k :: ks, d' :: ds, [], _, e, r => by simp at e
  | k :: ks, d' :: ds, p :: kvs, nd, e, r => by
    simp only [List.map_cons, List.cons.injEq] at e
    obtain ⟨x, rv, e2, hx, t⟩ := r.inv
    simp only [List.map_cons, List.cons.injEq] at e2
    obtain ⟨rfl, rfl⟩ := e2
    rw [List.map_cons, List.nodup_cons] at nd
    have key : keyEq k (.tup es) = decide (p.1 = k0) := by
      cases k with
      | tup fs => simp only [keyEq]; exact keysD_eqv e.1 h0
      | _ => simp [kT] at e
    by_cases q : p.1 = k0
    · have hput : putK (p :: kvs) k0 y = (p.1, y) :: kvs := by
        unfold putK
        rw [if_pos (by simp [q])]
        rw [List.map_cons, if_pos q]
        congr 1
        have : ∀ kv ∈ kvs, (if kv.1 = k0 then (kv.1, y) else kv) = kv := fun kv hkv => if_neg fun z => nd.1 (by rw [q, ← z]; exact List.mem_map_of_mem (f := (·.1)) hkv)
        rw [List.map_congr_left this, List.map_id']
      rw [hput]
      simp only [putD, key]
      rw [if_pos (by simp [q])]
      exact ⟨by rw [List.map_cons, List.map_cons, e.1, e.2], .cons hy t⟩
    · have hput : putK (p :: kvs) k0 y = p :: putK kvs k0 y := by
        unfold putK
        simp only [List.any_cons, decide_eq_false q, Bool.false_or, List.map_cons, if_neg q]
        split <;> rfl
      rw [hput]
      simp only [putD, key]
      rw [if_neg (by simp [q])]
      obtain ⟨i1, i2⟩ := putT h0 hy nd.2 e.2 t
      exact ⟨by rw [List.map_cons, List.map_cons, e.1, i1], .cons hx i2⟩
theorem putKI {R : Rx} {P : Addr → Prop} {H : Hp} {i : Int} {d : D} {y : V} (hy : Rep R P H d y) : ∀ {ks ds : List D} {kvs : List (Key × V)}, (kvs.map (·.1)).Nodup → ks.map keyD = kvs.map (fun kv => some kv.1) → Reps R P H ds (kvs.map (·.2)) →
    (putD (.int i) d ks ds).1.map keyD = (putK kvs (.inl i) y).map (fun kv => some kv.1) ∧ Reps R P H (putD (.int i) d ks ds).2 ((putK kvs (.inl i) y).map (·.2))
  | [], ds, [], _, e, r => by
    simp only [List.map_nil] at r
    refine ⟨by simp [putD, keyD, putK], ?_⟩
    simp only [putD, putK, List.any_nil, Bool.false_eq_true, if_false, List.nil_append, List.map_cons, List.map_nil]
    exact .cons hy .nil
  | [], ds, _ :: _, _, e, r => by simp at e
  | k :: ks, [], [], _, e, r => by simp at e
  | k :: ks, [], _ :: _, _, e, r => by have := r.length; simp at this
  | k :: ks, d' :: ds, [], _, e, r => by simp at e
  | k :: ks, d' :: ds, p :: kvs, nd, e, r => by
    simp only [List.map_cons, List.cons.injEq] at e
    obtain ⟨x, rv, e2, hx, t⟩ := r.inv
    simp only [List.map_cons, List.cons.injEq] at e2
    obtain ⟨rfl, rfl⟩ := e2
    rw [List.map_cons, List.nodup_cons] at nd
    have key : keyEq k (.int i) = decide (p.1 = .inl i) := by
      cases k with
      | int j => simp only [keyD, Option.some.injEq] at e; rw [← e.1]; simp only [keyEq]; by_cases q : j = i <;> simp [q]
      | str j => simp only [keyD, Option.some.injEq] at e; rw [← e.1]; simp [keyEq]
      | _ => simp [keyD] at e
    by_cases q : p.1 = .inl i
    · have hput : putK (p :: kvs) (.inl i) y = (p.1, y) :: kvs := by
        unfold putK
        rw [if_pos (by simp [q])]
        rw [List.map_cons, if_pos q]
        congr 1
        have : ∀ kv ∈ kvs, (if kv.1 = .inl i then (kv.1, y) else kv) = kv := fun kv hkv => if_neg fun z => nd.1 (by rw [q, ← z]; exact List.mem_map_of_mem (f := (·.1)) hkv)
        rw [List.map_congr_left this, List.map_id']
      rw [hput]
      simp only [putD, key]
      rw [if_pos (by simp [q])]
      exact ⟨by rw [List.map_cons, List.map_cons, e.1, e.2], .cons hy t⟩
    · have hput : putK (p :: kvs) (.inl i) y = p :: putK kvs (.inl i) y := by
        unfold putK
        simp only [List.any_cons, decide_eq_false q, Bool.false_or, List.map_cons, if_neg q]
        split <;> rfl
      rw [hput]
      simp only [putD, key]
      rw [if_neg (by simp [q])]
      obtain ⟨i1, i2⟩ := putKI hy nd.2 e.2 t
      exact ⟨by rw [List.map_cons, List.map_cons, e.1, i1], .cons hx i2⟩
section
variable {X : Cx} {pins : List (Addr × Obj)} {σ : L2.St} {H : Hp} {s : Shared} {a : Addr}
/-- the empty dict is of both kinds -/
theorem emptyT (I : L2.Inv X pins σ H s) (h : H a = some (.dK [])) : L2.Inv X pins σ (upd H a (.dT [])) s := by
  obtain ⟨z, hd, vs, rel, dd⟩ := I.hok a _ h
  cases rel
  obtain ⟨o, es, ep, ho, hex, hdat, _, hp, _⟩ := dd
  refine I.write (x := a) (e := a) (t' := s.toks) (h' := s.heap) (by rw [h]; exact True.intro) (.inl rfl) (fun b v _ q => q) ⟨o, ho⟩ ⟨Nat.zero_le _, hd, [], .nil, o, es, ep, ho, hex, hdat, ?_, List.nodup_nil⟩
  have := hp.length
  rw [List.length_nil] at this
  rw [List.eq_nil_of_length_eq_zero this]; rfl
theorem emptyK (I : L2.Inv X pins σ H s) (h : H a = some (.dT [])) : L2.Inv X pins σ (upd H a (.dK [])) s := by
  obtain ⟨z, hd, xs, rel, o, es, ep, ho, hex, hdat, hes, _⟩ := I.hok a _ h
  cases rel
  refine I.write (x := a) (e := a) (t' := s.toks) (h' := s.heap) (by rw [h]; exact True.intro) (.inl rfl) (fun b v _ q => q) ⟨o, ho⟩ (dk_new (Nat.zero_le _) hd .nil ⟨o, es, ep, ho, hex, hdat, ?_, ?_, List.nodup_nil⟩)
  · intro e he
    rw [show es = #[] from Array.toList_inj.mp hes] at he
    simp at he
  · rw [hes]; exact .nil
theorem upd_back {o o' : HO} (h : H a = some o) : upd (upd H a o') a o = H := by
  funext b
  by_cases e : b = a
  · subst e; rw [upd_same, h]
  · rw [upd_ne e, upd_ne e]
end
end En

/-! The engine, part l: operators on data. -/
namespace En
open PySem PySem.Spec PyProof.Rows L2

section
variable {X : Cx}
theorem RepB.int_ {bx : Option (Addr × Addr)} {P : Addr → Prop} {H : Hp} {i : Int} {v : V} (h : RepB (RX X bx) P H (.int i) v) : v = .int i := by simpa only [RepB, Rep] using h
theorem RepB.bl_ {bx : Option (Addr × Addr)} {P : Addr → Prop} {H : Hp} {i : Bool} {v : V} (h : RepB (RX X bx) P H (.bl i) v) : v = .bl i := by simpa only [RepB, Rep] using h
theorem RepB.non_ {bx : Option (Addr × Addr)} {P : Addr → Prop} {H : Hp} {v : V} (h : RepB (RX X bx) P H .non v) : v = .non := by simpa only [RepB, Rep] using h
theorem RepB.str_ {bx : Option (Addr × Addr)} {P : Addr → Prop} {H : Hp} {i : Str} {v : V} (h : RepB (RX X bx) P H (.str i) v) : v = .str i ∧ PyData.strOk i = true := by simpa only [RepB, Rep] using h
theorem RepB.tup_ {bx : Option (Addr × Addr)} {P : Addr → Prop} {H : Hp} {ds : List D} {v : V} (h : RepB (RX X bx) P H (.tup ds) v) : ∃ a xs, v = .ref a ∧ SqT X.K H a xs ∧ Reps (RX X bx) P H ds xs := by
  simp only [RepB, Rep] at h
  obtain ⟨a, xs, e, h1, h2⟩ := h
  exact ⟨a, xs, e, .inl (.inl h1), h2⟩
theorem RepB.tupH {bx : Option (Addr × Addr)} {P : Addr → Prop} {H : Hp} {ds : List D} {v : V} (h : RepB (RX X bx) P H (.tup ds) v) : ∃ a xs, v = .ref a ∧ H a = some (.tup xs) ∧ Reps (RX X bx) P H ds xs := by simpa only [RepB, Rep] using h
theorem RepB.lst_ {bx : Option (Addr × Addr)} {P : Addr → Prop} {H : Hp} {ds : List D} {v : V} (h : RepB (RX X bx) P H (.lst ds) v) : ∃ a xs, v = .ref a ∧ LstAt (RX X bx) (NB (RX X bx)) H a xs ∧ Reps (RX X bx) P H ds xs := h
/-- the ways an answer comes -/
theorem ans_same {bx : Option (Addr × Addr)} {P : Addr → Prop} {H : Hp} {bs : BS} {d : D} {Q : VK} {v : V} (hb : BoxRel (RX X bx) H bs) (k : ∀ v H', EPost (RX X bx) (RX X bx) H H' bs → NewRep (RX X bx) (Pn (RX X bx) P H) H H' d v → Q v H') (m : isMut d = false) (r : Rep (RX X bx) (Pn (RX X bx) P H) H d v) : Q v H :=
  k v H (.refl hb) (.of m r)
theorem ans_tup {bx : Option (Addr × Addr)} {P : Addr → Prop} {H : Hp} {bs : BS} {ds : List D} {Q : VK} {vs : List V} {p : Addr} (hb : BoxRel (RX X bx) H bs) (hp : H p = none) (nob : ∀ a, P a → ¬InBox (RX X bx) a) (k : ∀ v H', EPost (RX X bx) (RX X bx) H H' bs → NewRep (RX X bx) (Pn (RX X bx) P H) H H' (.tup ds) v → Q v H') (r : Reps (RX X bx) P H ds vs) : Q (.ref p) (upd H p (.tup vs)) := by
  refine k _ _ (.new hb hp) (.of rfl ?_)
  simp only [Rep]
  exact ⟨p, vs, rfl, upd_same, Pn.ofs (.new hb hp) nob r hb⟩
theorem ans_lst {bx : Option (Addr × Addr)} {P : Addr → Prop} {H : Hp} {bs : BS} {ds : List D} {Q : VK} {vs : List V} {p : Addr} (hb : BoxRel (RX X bx) H bs) (hp : H p = none) (nob : ∀ a, P a → ¬InBox (RX X bx) a) (k : ∀ v H', EPost (RX X bx) (RX X bx) H H' bs → NewRep (RX X bx) (Pn (RX X bx) P H) H H' (.lst ds) v → Q v H') (r : Reps (RX X bx) P H ds vs) : Q (.ref p) (upd H p (.lst vs)) := by
  have nb : ¬InBox (RX X bx) p := fun i => by obtain ⟨xs, z⟩ := hb.lst i; rw [hp] at z; cases z
  refine k _ _ (.new hb hp) ⟨fun _ => ⟨p, rfl, hp, ?_⟩, fun z => by cases z⟩
  exact (OwnRep.newL hp nb r).mono fun b q => ⟨⟨.inl q.1, nob b q.1⟩, q.2⟩
theorem Rep.tupOf {R : Rx} {P : Addr → Prop} {H : Hp} {ds : List D} {a : Addr} {xs : List V} (h : H a = some (.tup xs)) (r : Reps R P H ds xs) : Rep R P H (.tup ds) (.ref a) := by simp only [Rep]; exact ⟨a, xs, rfl, h, r⟩
theorem Rep.tupOfP {R : Rx} {P P' : Addr → Prop} {H : Hp} {ds : List D} {a : Addr} {xs : List V} (hp : ∀ a, P a → P' a) (h : H a = some (.tup xs)) (r : Reps R P H ds xs) : Rep R P' H (.tup ds) (.ref a) := by simp only [Rep]; exact ⟨a, xs, rfl, h, Reps.mono (.refl _) hp (.refl _ _) _ _ r⟩
theorem toPn {R : Rx} {P : Addr → Prop} {H : Hp} (nob : ∀ a, P a → ¬InBox R a) : ∀ a, P a → Pn R P H a := fun a p => ⟨.inl p, nob a p⟩
theorem strOk_append {a b : Str} (ha : PyData.strOk a = true) (hb : PyData.strOk b = true) : PyData.strOk (a ++ b) = true := by
  unfold PyData.strOk at *
  show (a.cps ++ b.cps).all _ = true
  rw [Array.all_append, ha, hb]; rfl
theorem op2_bin (op : Operator) : Op2 X (binaryOp op) (binD op) := by
  intro pins s σ H x y u v Q I rx ry h
  obtain ⟨bx, P, bs, a, b, d, hb, nob, ra, rb, hg, k⟩ := h
  have int : ∀ {z : Int}, d = .int z → Q (.int z) H := fun {z} e => by subst e; exact ans_same hb k rfl (by simp only [Rep])
  cases op with
  | Add =>
    cases a with
    | int i =>
      cases b with
      | int j =>
        simp only [binD, Option.some.injEq] at hg
        exact op_add pins s σ H _ _ u v Q I rx ry ⟨i, j, ra.int_, rb.int_, int hg.symm⟩
      | _ => simp [binD] at hg
    | str i =>
      cases b with
      | str j =>
        simp only [binD] at hg
        split at hg
        · rename_i hz
          simp only [Option.some.injEq] at hg; subst hg
          exact op_add_str pins s σ H _ _ u v Q I rx ry ⟨i, j, ra.str_.1, rb.str_.1, hz, ans_same hb k rfl (by simp only [Rep]; exact ⟨trivial, strOk_append ra.str_.2 rb.str_.2⟩)⟩
        · cases hg
      | _ => simp [binD] at hg
    | tup ds =>
      cases b with
      | tup es =>
        simp only [binD] at hg
        split at hg
        · rename_i hz
          simp only [Option.some.injEq] at hg; subst hg
          obtain ⟨a1, xs, rfl, h1, r1⟩ := ra.tupH
          obtain ⟨a2, ys, rfl, h2, r2⟩ := rb.tupH
          have l1 := r1.length
          have l2 := r2.length
          refine op_catA pins s σ H _ _ u v Q I rx ry ⟨a1, a2, xs, ys, rfl, rfl, .inl (.inl h1), .inl (.inl h2), by rw [← l1, ← l2]; exact hz, fun e => ?_, fun _ e => ?_, fun _ _ p hp => ?_⟩
          · subst e
            have : ds = [] := List.eq_nil_of_length_eq_zero l1
            subst this
            exact ans_same hb k rfl (Rep.tupOfP (toPn nob) h2 (by simpa using r2))
          · subst e
            have : es = [] := List.eq_nil_of_length_eq_zero l2
            subst this
            exact ans_same hb k rfl (Rep.tupOfP (toPn nob) h1 (by simpa using r1))
          · exact ans_tup hb hp nob k (r1.append r2)
        · cases hg
      | _ => simp [binD] at hg
    | lst ds =>
      cases b with
      | lst es =>
        simp only [binD] at hg
        split at hg
        · rename_i hz
          simp only [Option.some.injEq] at hg; subst hg
          obtain ⟨a1, xs, rfl, h1, r1⟩ := ra.lst_
          obtain ⟨a2, ys, rfl, h2, r2⟩ := rb.lst_
          have l1 := r1.length
          have l2 := r2.length
          exact op_catL pins s σ H _ _ u v Q I rx ry ⟨bx, bx, _, _, a1, a2, xs, ys, rfl, rfl, h1, h2, by rw [← l1, ← l2]; exact hz, fun p hp => ans_lst hb hp nob k (r1.append r2)⟩
        · cases hg
      | _ => simp [binD] at hg
    | _ => simp [binD] at hg
  | Sub =>
    cases a with
    | int i =>
      cases b with
      | int j =>
        simp only [binD, Option.some.injEq] at hg
        exact op_sub pins s σ H _ _ u v Q I rx ry ⟨i, j, ra.int_, rb.int_, int hg.symm⟩
      | _ => simp [binD] at hg
    | _ => simp [binD] at hg
  | Mult =>
    cases a with
    | int i =>
      cases b with
      | int j =>
        simp only [binD] at hg
        split at hg
        · rename_i hc
          simp only [Option.some.injEq] at hg
          rcases hc with hc | hc
          · exact op_mul pins s σ H _ _ u v Q I rx ry ⟨i, j, ra.int_, rb.int_, hc, int hg.symm⟩
          · exact op_mulW pins s σ H _ _ u v Q I rx ry ⟨i, j, ra.int_, rb.int_, hc, int hg.symm⟩
        · cases hg
      | _ => simp [binD] at hg
    | tup ds =>
      cases b with
      | int j =>
        simp only [binD] at hg
        split at hg
        · rename_i hc
          simp only [Option.some.injEq] at hg; subst hg
          obtain ⟨a1, xs, rfl, h1, r1⟩ := ra.tupH
          have l1 := r1.length
          refine op_mulT pins s σ H _ _ u v Q I rx ry ⟨a1, j, xs, rfl, rb.int_, .inl (.inl h1), hc.1, hc.2.1, by rw [← l1]; exact hc.2.2, fun e => ?_, fun _ _ p hp => ans_tup hb hp nob k (r1.rep _)⟩
          refine ans_same hb k rfl (Rep.tupOfP (toPn nob) h1 ?_)
          rcases e with e | e
          · subst e
            have : ds = [] := List.eq_nil_of_length_eq_zero l1
            subst this
            simpa using r1
          · subst e
            simpa using r1
        · cases hg
      | _ => simp [binD] at hg
    | lst ds =>
      cases b with
      | int j =>
        simp only [binD] at hg
        split at hg
        · rename_i hc
          simp only [Option.some.injEq] at hg; subst hg
          obtain ⟨a1, xs, rfl, h1, r1⟩ := ra.lst_
          have l1 := r1.length
          exact op_repL pins s σ H _ _ u v Q I rx ry ⟨bx, _, a1, j, xs, rfl, rb.int_, h1, hc.1, hc.2.1, by rw [← l1]; exact hc.2.2, fun p hp => ans_lst hb hp nob k (r1.rep _)⟩
        · cases hg
      | _ => simp [binD] at hg
    | _ => simp [binD] at hg
  | FloorDiv =>
    cases a with
    | int i =>
      cases b with
      | int j =>
        simp only [binD] at hg
        split at hg
        · rename_i hc
          simp only [Option.some.injEq] at hg
          rcases hc with hc | hc
          · exact op_fdivN pins s σ H _ _ u v Q I rx ry ⟨i, j, ra.int_, rb.int_, hc, int hg.symm⟩
          · rw [Int.fdiv_eq_ediv_of_nonneg i (by have := hc.1; omega)] at hg
            exact op_fdivW pins s σ H _ _ u v Q I rx ry ⟨i, j, ra.int_, rb.int_, hc, int hg.symm⟩
        · cases hg
      | _ => simp [binD] at hg
    | _ => simp [binD] at hg
  | Mod =>
    cases a with
    | int i =>
      cases b with
      | int j =>
        simp only [binD] at hg
        split at hg
        · rename_i hc
          simp only [Option.some.injEq] at hg
          exact op_modN pins s σ H _ _ u v Q I rx ry ⟨i, j, ra.int_, rb.int_, hc, int hg.symm⟩
        · cases hg
      | _ => simp [binD] at hg
    | _ => simp [binD] at hg
  | Pow =>
    cases a with
    | int i =>
      cases b with
      | int j =>
        simp only [binD] at hg
        split at hg
        · rename_i hc
          simp only [Option.some.injEq] at hg
          exact op_pow pins s σ H _ _ u v Q I rx ry ⟨i, j, ra.int_, rb.int_, hc, int hg.symm⟩
        · cases hg
      | _ => simp [binD] at hg
    | _ => simp [binD] at hg
  | LShift =>
    cases a with
    | int i =>
      cases b with
      | int j =>
        simp only [binD] at hg
        split at hg
        · rename_i hc
          simp only [Option.some.injEq] at hg
          exact op_shl pins s σ H _ _ u v Q I rx ry ⟨i, j, ra.int_, rb.int_, hc, int hg.symm⟩
        · cases hg
      | _ => simp [binD] at hg
    | _ => simp [binD] at hg
  | _ => simp [binD] at hg
/-! ### comparisons -/
mutual
theorem dLe_py : ∀ (d : D) (n : Nat), dLe d n = true → ∃ p, py d = some p ∧ p.depth ≤ n
  | .non, n, _ => ⟨_, rfl, Nat.zero_le _⟩
  | .bl b, n, _ => ⟨.bool b, by simp only [py], Nat.zero_le _⟩
  | .int b, n, _ => ⟨.int b, by simp only [py], Nat.zero_le _⟩
  | .str b, n, _ => ⟨.str b, by simp only [py], Nat.zero_le _⟩
  | .tup ds, n, h => by
    cases n with
    | zero => simp [dLe] at h
    | succ m =>
      simp only [dLe] at h
      obtain ⟨ps, e, l⟩ := dLes_py ds m h
      exact ⟨.tuple ps, by simp [py, e], by simp only [PyData.depth]; omega⟩
  | .lst ds, n, h => by
    cases n with
    | zero => simp [dLe] at h
    | succ m =>
      simp only [dLe] at h
      obtain ⟨ps, e, l⟩ := dLes_py ds m h
      exact ⟨.list ps, by simp [py, e], by simp only [PyData.depth]; omega⟩
  | .dct _ _, n, h => by simp [dLe] at h
  | .fn _, n, h => by simp [dLe] at h
  | .box, n, h => by simp [dLe] at h
theorem dLes_py : ∀ (d : List D) (n : Nat), dLes d n = true → ∃ p, pys d = some p ∧ PyData.depthAll p ≤ n
  | [], n, _ => ⟨[], rfl, Nat.zero_le _⟩
  | d :: ds, n, h => by
    simp only [dLes, Bool.and_eq_true] at h
    obtain ⟨p, e, l⟩ := dLe_py d n h.1
    obtain ⟨ps, e2, l2⟩ := dLes_py ds n h.2
    exact ⟨p :: ps, by simp [pys, e, e2], by simp only [PyData.depthAll]; omega⟩
end
theorem pys_cons {d : D} {ds : List D} {ps : List PyData} (h : pys (d :: ds) = some ps) : ∃ p r, py d = some p ∧ pys ds = some r ∧ ps = p :: r := by
  simp only [pys] at h
  cases e : py d with
  | none => simp [e] at h
  | some p =>
    cases e2 : pys ds with
    | none => simp [e, e2] at h
    | some r => simp [e, e2] at h; exact ⟨p, r, rfl, rfl, h.symm⟩
theorem py_tup {ds : List D} {p : PyData} (h : py (.tup ds) = some p) : ∃ ps, pys ds = some ps ∧ p = .tuple ps := by
  simp only [py] at h
  cases e : pys ds with
  | none => simp [e] at h
  | some r => simp [e] at h; exact ⟨r, rfl, h.symm⟩
theorem py_lst {ds : List D} {p : PyData} (h : py (.lst ds) = some p) : ∃ ps, pys ds = some ps ∧ p = .list ps := by
  simp only [py] at h
  cases e : pys ds with
  | none => simp [e] at h
  | some r => simp [e] at h; exact ⟨r, rfl, h.symm⟩
mutual
theorem eqvD_py : ∀ (d e : D) (p q : PyData), py d = some p → py e = some q → eqvD d e = PyData.eqv p q
  | .non, e, p, q, h, h2 => by
    simp only [py, Option.some.injEq] at h; subst h
    cases e with
    | tup ds => obtain ⟨ps, _, rfl⟩ := py_tup h2; simp [eqvD, PyData.eqv]
    | lst ds => obtain ⟨ps, _, rfl⟩ := py_lst h2; simp [eqvD, PyData.eqv]
    | _ => first | (simp [py] at h2; done) | (simp only [py, Option.some.injEq] at h2; subst h2; simp [eqvD, PyData.eqv])
  | .bl a, e, p, q, h, h2 => by
    simp only [py, Option.some.injEq] at h; subst h
    cases e with
    | tup ds => obtain ⟨ps, _, rfl⟩ := py_tup h2; simp [eqvD, PyData.eqv]
    | lst ds => obtain ⟨ps, _, rfl⟩ := py_lst h2; simp [eqvD, PyData.eqv]
    | _ => first | (simp [py] at h2; done) | (simp only [py, Option.some.injEq] at h2; subst h2; simp [eqvD, PyData.eqv])
  | .int a, e, p, q, h, h2 => by
    simp only [py, Option.some.injEq] at h; subst h
    cases e with
    | tup ds => obtain ⟨ps, _, rfl⟩ := py_tup h2; simp [eqvD, PyData.eqv]
    | lst ds => obtain ⟨ps, _, rfl⟩ := py_lst h2; simp [eqvD, PyData.eqv]
    | _ => first | (simp [py] at h2; done) | (simp only [py, Option.some.injEq] at h2; subst h2; simp [eqvD, PyData.eqv])
  | .str a, e, p, q, h, h2 => by
    simp only [py, Option.some.injEq] at h; subst h
    cases e with
    | tup ds => obtain ⟨ps, _, rfl⟩ := py_tup h2; simp [eqvD, PyData.eqv]
    | lst ds => obtain ⟨ps, _, rfl⟩ := py_lst h2; simp [eqvD, PyData.eqv]
    | _ => first | (simp [py] at h2; done) | (simp only [py, Option.some.injEq] at h2; subst h2; simp [eqvD, PyData.eqv])
  | .tup ds, e, p, q, h, h2 => by
    obtain ⟨ps, e1, rfl⟩ := py_tup h
    cases e with
    | tup es => obtain ⟨qs, e2, rfl⟩ := py_tup h2; simp only [eqvD, PyData.eqv]; exact eqvDs_py ds es ps qs e1 e2
    | lst ds => obtain ⟨ps, _, rfl⟩ := py_lst h2; simp [eqvD, PyData.eqv]
    | _ => first | (simp [py] at h2; done) | (simp only [py, Option.some.injEq] at h2; subst h2; simp [eqvD, PyData.eqv])
  | .lst ds, e, p, q, h, h2 => by
    obtain ⟨ps, e1, rfl⟩ := py_lst h
    cases e with
    | lst es => obtain ⟨qs, e2, rfl⟩ := py_lst h2; simp only [eqvD, PyData.eqv]; exact eqvDs_py ds es ps qs e1 e2
    | tup ds => obtain ⟨ps, _, rfl⟩ := py_tup h2; simp [eqvD, PyData.eqv]
    | _ => first | (simp [py] at h2; done) | (simp only [py, Option.some.injEq] at h2; subst h2; simp [eqvD, PyData.eqv])
  | .dct _ _, e, p, q, h, h2 => by simp [py] at h
  | .fn _, e, p, q, h, h2 => by simp [py] at h
  | .box, e, p, q, h, h2 => by simp [py] at h
theorem eqvDs_py : ∀ (d e : List D) (p q : List PyData), pys d = some p → pys e = some q → eqvDs d e = PyData.eqvAll p q
  | [], e, p, q, h, h2 => by
    simp only [pys, Option.some.injEq] at h; subst h
    cases e with
    | nil => simp only [pys, Option.some.injEq] at h2; subst h2; simp [eqvDs, PyData.eqvAll]
    | cons e es => obtain ⟨q1, q2, _, _, rfl⟩ := pys_cons h2; simp [eqvDs, PyData.eqvAll]
  | d :: ds, e, p, q, h, h2 => by
    obtain ⟨p1, p2, f1, f2, rfl⟩ := pys_cons h
    cases e with
    | nil => simp only [pys, Option.some.injEq] at h2; subst h2; simp [eqvDs, PyData.eqvAll]
    | cons e es =>
      obtain ⟨q1, q2, g1, g2, rfl⟩ := pys_cons h2
      simp only [eqvDs, PyData.eqvAll, eqvD_py d e p1 q1 f1 g1, eqvDs_py ds es p2 q2 f2 g2]
end
theorem RepB.dp {bx : Option (Addr × Addr)} {P : Addr → Prop} {H : Hp} {d : D} {v : V} {p : PyData} (h : RepB (RX X bx) P H d v) (e : py d = some p) : Dp X.K H v p ∧ p.canLay0 = true := by
  cases d with
  | lst ds =>
    obtain ⟨ps, e1, rfl⟩ := py_lst e
    obtain ⟨a, xs, rfl, h1, h2⟩ := h.lst_
    obtain ⟨r1, r2⟩ := Reps.dp ds xs ps h2 e1
    exact ⟨.lst (LstAt.sq (R := RX X bx) h1) r1, by simpa only [PyData.canLay0] using r2⟩
  | dct _ _ => simp [py] at e
  | non => exact Rep.dp (R := RX X bx) (P := P) .non v p h e
  | bl k => exact Rep.dp (R := RX X bx) (P := P) (.bl k) v p h e
  | int k => exact Rep.dp (R := RX X bx) (P := P) (.int k) v p h e
  | str k => exact Rep.dp (R := RX X bx) (P := P) (.str k) v p h e
  | tup k => exact Rep.dp (R := RX X bx) (P := P) (.tup k) v p h e
  | fn k => simp [py] at e
  | box => simp [py] at e
theorem RepB.shaped {bx : Option (Addr × Addr)} {P : Addr → Prop} {H : Hp} {d : D} {v : V} {n : Nat} (h : RepB (RX X bx) P H d v) (e : dLe d n = true) (hn : n ≤ 64) : ∃ p, py d = some p ∧ Dp X.K H v p ∧ SeqAt.shaped p = true := by
  obtain ⟨p, e1, e2⟩ := dLe_py d n e
  obtain ⟨h1, h2⟩ := h.dp e1
  exact ⟨p, e1, h1, by unfold SeqAt.shaped; rw [h2, decide_eq_true (Nat.le_trans e2 hn)]; rfl⟩
theorem any_py : ∀ (ds : List D) (ps : List PyData) (x : D) (q : PyData), pys ds = some ps → py x = some q → (ds.any fun d => eqvD d x) = ps.any fun z => PyData.eqv z q
  | [], ps, x, q, h, _ => by simp only [pys, Option.some.injEq] at h; subst h; rfl
  | d :: ds, ps, x, q, h, h2 => by
    obtain ⟨p1, p2, f1, f2, rfl⟩ := pys_cons h
    simp only [List.any_cons, any_py ds p2 x q f2 h2, eqvD_py d x p1 q f1 h2]
/-- x in y -/
theorem in_core {bx : Option (Addr × Addr)} {P : Addr → Prop} {pins : List (Addr × Obj)} {σ : L2.St} {H : Hp} {s : Shared} {a b : D} {x y : V} {u v : Value} {c : Bool} {Q : Value → Shared → Prop} (neg : Bool) (hu : X.A.units + 65 < cLine) (I : L2.Inv X pins σ H s)
    (ra : RepB (RX X bx) P H a x) (rb : RepB (RX X bx) P H b y) (rx : RelV x u) (ry : RelV y v) (hc : inD a b = some c) (hq : ∀ s', L2.Inv X pins σ H s' → Q (.bool (if neg then !c else c)) s') :
    wpAny (model X.prog X.w) X.A (compareOp (if neg then .NotIn else .In) u v) Q X.xe s := by
  cases b with
  | tup ds =>
    simp only [inD] at hc
    split at hc
    · rename_i hz
      simp only [Bool.and_eq_true] at hz
      simp only [Option.some.injEq] at hc; subst hc
      obtain ⟨q, e1, d1, s1⟩ := ra.shaped hz.1 (by omega)
      obtain ⟨p, e2, d2, s2⟩ := rb.shaped (n := 61) (by simpa only [dLe] using hz.2) (by omega)
      obtain ⟨ps, e3, rfl⟩ := py_tup e2
      obtain ⟨as, r1⟩ := Dp.reads I q x u d1 rx
      obtain ⟨bs', r2⟩ := Dp.reads I (.tuple ps) y v d2 ry
      have e := any_py ds ps a q e3 e1
      cases neg with
      | false => exact SeqAt.in_tuple_reads r2 r1 (SeqAt.canLay_of_shaped s2) (SeqAt.canLay_of_shaped s1) (room_in_shaped s1 hu) (by rw [← e]; exact hq s I)
      | true => exact SeqAt.notIn_tuple_reads r2 r1 (SeqAt.canLay_of_shaped s2) (SeqAt.canLay_of_shaped s1) (room_in_shaped s1 hu) (by rw [← e]; exact hq s I)
    · cases hc
  | lst ds =>
    simp only [inD] at hc
    split at hc
    · rename_i hz
      simp only [Bool.and_eq_true] at hz
      simp only [Option.some.injEq] at hc; subst hc
      obtain ⟨q, e1, d1, s1⟩ := ra.shaped hz.1 (by omega)
      obtain ⟨p, e2, d2, s2⟩ := rb.shaped (n := 61) (by simpa only [dLe] using hz.2) (by omega)
      obtain ⟨ps, e3, rfl⟩ := py_lst e2
      obtain ⟨as, r1⟩ := Dp.reads I q x u d1 rx
      obtain ⟨bs', r2⟩ := Dp.reads I (.list ps) y v d2 ry
      have e := any_py ds ps a q e3 e1
      cases neg with
      | false => exact SeqAt.in_list_reads r2 r1 (SeqAt.canLay_of_shaped s2) (SeqAt.canLay_of_shaped s1) (room_in_shaped s1 hu) (by rw [← e]; exact hq s I)
      | true => exact SeqAt.notIn_list_reads r2 r1 (SeqAt.canLay_of_shaped s2) (SeqAt.canLay_of_shaped s1) (room_in_shaped s1 hu) (by rw [← e]; exact hq s I)
    · cases hc
  | str j =>
    cases a with
    | str i =>
      simp only [inD, Option.some.injEq] at hc; subst hc
      obtain ⟨rfl, _⟩ := ra.str_
      obtain ⟨rfl, _⟩ := rb.str_
      obtain ⟨t, rfl⟩ := rx
      obtain ⟨t', rfl⟩ := ry
      cases neg with
      | false => exact in_str (hq s I)
      | true => exact notIn_str (hq s I)
    | _ => simp [inD] at hc
  | dct ks vs =>
    simp only [inD] at hc
    split at hc
    · rename_i hs
      simp only [Option.some.injEq] at hc; subst hc
      obtain ⟨a1, xs, rfl, h1, r1⟩ := id rb
      cases ry
      have ask : ∀ (H2 : Hp), L2.Inv X pins σ H2 s → (∀ s', L2.Inv X pins σ H2 s' → L2.Inv X pins σ H s') → ∀ o : Option V, DGet H2 a1 x o → (ks.any fun k => keyEq k a) = o.isSome → wpAny (model X.prog X.w) X.A (compareOp (if neg then .NotIn else .In) u (.ref a1)) Q X.xe s := fun H2 I2 back o g e => by
        cases neg with
        | false => exact d_in (by omega) I2 g rx fun s' I' => by rw [← e]; exact hq s' (back s' I')
        | true => exact d_notIn (by omega) I2 g rx fun s' I' => by rw [← e]; exact hq s' (back s' I')
      cases a with
      | int i =>
        simp only [sameK] at hs
        have hx := ra.int_
        rcases h1 with ⟨_, kvs, e1, e2, rfl⟩ | ⟨_, kvs, e1, e2, rfl⟩ | ⟨_, hne, hks, _⟩
        · exact ask H I (fun _ z => z) _ (by rw [hx]; exact DGet.k (k := .inl i) e1) (any_dK e2)
        · have hk0 : ks = [] := by
            cases ks with
            | nil => rfl
            | cons k ks =>
              simp only [List.all_cons, Bool.and_eq_true] at hs
              cases kvs with
              | nil => simp at e2
              | cons kv kvs =>
                simp only [List.map_cons, List.cons.injEq] at e2
                cases k with
                | int j => simp at e2
                | _ => simp [isIntD] at hs
          subst hk0
          cases kvs with
          | cons _ _ => simp at e2
          | nil => exact ask _ (emptyK I e1) (fun s' I' => by have := emptyT I' upd_same; rwa [upd_back e1] at this) none (by rw [hx]; exact DGet.k (k := .inl i) upd_same) rfl
        · exfalso
          cases ks with
          | nil => exact hne rfl
          | cons k ks =>
            obtain ⟨z, rfl⟩ := hks k (by simp)
            simp [isIntD] at hs
      | tup ds =>
        simp only [sameK, Bool.and_eq_true] at hs
        obtain ⟨hs0, hs⟩ := hs
        obtain ⟨k0, hk0⟩ := Option.isSome_iff_exists.mp hs0
        obtain ⟨b1, ys, hx, hb1, rb1⟩ := ra.tupH
        have hys := keys_vals hk0 rb1
        subst hys
        rcases h1 with ⟨_, kvs, e1, e2, rfl⟩ | ⟨_, kvs, e1, e2, rfl⟩ | ⟨_, hne, hks, _⟩
        · have hk0' : ks = [] := by
            cases ks with
            | nil => rfl
            | cons k ks =>
              simp only [List.all_cons, Bool.and_eq_true] at hs
              cases kvs with
              | nil => simp at e2
              | cons kv kvs =>
                simp only [List.map_cons, List.cons.injEq] at e2
                cases k with
                | tup j => simp [keyD] at e2
                | _ => simp [isTupD] at hs
          subst hk0'
          cases kvs with
          | cons _ _ => simp at e2
          | nil =>
            have hne : b1 ≠ a1 := fun z => by rw [z, e1] at hb1; cases hb1
            exact ask _ (emptyT I e1) (fun s' I' => by have := emptyK I' upd_same; rwa [upd_back e1] at this) none (by rw [hx]; exact DGet.t (k := k0) upd_same (by rw [upd_ne hne]; exact hb1)) rfl
        · exact ask H I (fun _ z => z) _ (by rw [hx]; exact DGet.t e1 hb1) (any_dT hk0 e2)
        · exfalso
          cases ks with
          | nil => exact hne rfl
          | cons k ks =>
            obtain ⟨z, rfl⟩ := hks k (by simp)
            simp [isTupD] at hs
      | _ => simp [sameK] at hs
    · cases hc
  | _ => simp [inD] at hc
/-- tuples, one before the other -/
theorem ord_core {bx : Option (Addr × Addr)} {P : Addr → Prop} {pins : List (Addr × Obj)} {σ : L2.St} {H : Hp} {s : Shared} {a b : D} {x y : V} {u v : Value} {c : Bool} {Q : Value → Shared → Prop} (op : CmpOp) (hop : op = .Lt ∨ op = .LtE ∨ op = .Gt ∨ op = .GtE) (hu : X.A.units + 65 < cLine) (I : L2.Inv X pins σ H s)
    (ra : RepB (RX X bx) P H a x) (rb : RepB (RX X bx) P H b y) (rx : RelV x u) (ry : RelV y v) (hc : ordD op a b = some c) (hq : Q (.bool c) s) : wpAny (model X.prog X.w) X.A (compareOp op u v) Q X.xe s := by
  unfold ordD at hc
  split at hc
  · rename_i p q e1 e2
    split at hc
    · rename_i hz
      simp only [Bool.and_eq_true, decide_eq_true_eq] at hz
      obtain ⟨⟨⟨h1, h2⟩, h3⟩, h4⟩ := hz
      simp only [Option.some.injEq] at hc; subst hc
      obtain ⟨d1, _⟩ := ra.dp e1
      obtain ⟨d2, _⟩ := rb.dp e2
      obtain ⟨as, r1⟩ := Dp.reads I p x u d1 rx
      obtain ⟨bs, r2⟩ := Dp.reads I q y v d2 ry
      have := rc_ord op hop 40 p q X.A s u v as bs h4 r1 r2 h1 h2 h3 (by omega) X.prog X.w X.xe Q hq
      rcases hop with rfl | rfl | rfl | rfl <;> exact this
    · cases hc
  · cases hc
theorem op2_cmp (hu : X.A.units + 65 < cLine) (op : CmpOp) : Op2 X (compareOp op) (fun x y => (cmpD op x y).map D.bl) := by
  intro pins s σ H x y u v Q I rx ry h
  obtain ⟨bx, P, bs, a, b, d, hb, nob, ra, rb, hg, k⟩ := h
  obtain ⟨c, hg0, rfl⟩ := Option.map_eq_some_iff.mp hg
  clear hg
  have hg := hg0
  clear hg0
  have fin : Q (.bl c) H := ans_same hb k rfl (by simp only [Rep])
  have ep : ∀ s', L2.Inv X pins σ H s' → EP X pins σ Q (.bool c) s' := fun s' I' => ⟨.bl c, H, I', rfl, fin⟩
  cases op with
  | Eq =>
    simp only [cmpD, eqD] at hg
    split at hg
    · rename_i hz
      simp only [Bool.and_eq_true] at hz
      simp only [Option.some.injEq] at hg
      obtain ⟨p, e1, d1, s1⟩ := ra.shaped hz.1 (Nat.le_refl _)
      obtain ⟨q, e2, d2, s2⟩ := rb.shaped hz.2 (Nat.le_refl _)
      exact op_eqD (by omega) pins s σ H x y u v Q I rx ry ⟨p, q, d1, d2, s1, s2, by rw [← eqvD_py a b p q e1 e2, hg]; exact fin⟩
    · cases hg
  | NotEq =>
    simp only [cmpD, eqD] at hg
    split at hg
    · rename_i hz
      simp only [Bool.and_eq_true] at hz
      simp only [Option.map_some, Option.some.injEq] at hg
      obtain ⟨p, e1, d1, s1⟩ := ra.shaped hz.1 (Nat.le_refl _)
      obtain ⟨q, e2, d2, s2⟩ := rb.shaped hz.2 (Nat.le_refl _)
      exact op_neD (by omega) pins s σ H x y u v Q I rx ry ⟨p, q, d1, d2, s1, s2, by rw [← eqvD_py a b p q e1 e2, hg]; exact fin⟩
    · cases hg
  | Lt =>
    cases a with
    | int i => cases b with
      | int j =>
        simp only [cmpD, Option.some.injEq] at hg
        exact op_lt pins s σ H x y u v Q I rx ry ⟨i, j, ra.int_, rb.int_, by subst hg; exact fin⟩
      | _ => simp [cmpD] at hg
    | tup i => cases b with
      | tup j =>
        simp only [cmpD] at hg
        exact ord_core .Lt (.inl rfl) hu I ra rb rx ry hg (ep s I)
      | _ => simp [cmpD] at hg
    | _ => simp [cmpD] at hg
  | LtE =>
    cases a with
    | int i => cases b with
      | int j =>
        simp only [cmpD, Option.some.injEq] at hg
        exact op_le pins s σ H x y u v Q I rx ry ⟨i, j, ra.int_, rb.int_, by subst hg; exact fin⟩
      | _ => simp [cmpD] at hg
    | tup i => cases b with
      | tup j =>
        simp only [cmpD] at hg
        exact ord_core .LtE (.inr (.inl rfl)) hu I ra rb rx ry hg (ep s I)
      | _ => simp [cmpD] at hg
    | _ => simp [cmpD] at hg
  | Gt =>
    cases a with
    | int i => cases b with
      | int j =>
        simp only [cmpD, Option.some.injEq] at hg
        exact op_gt pins s σ H x y u v Q I rx ry ⟨i, j, ra.int_, rb.int_, by subst hg; exact fin⟩
      | _ => simp [cmpD] at hg
    | tup i => cases b with
      | tup j =>
        simp only [cmpD] at hg
        exact ord_core .Gt (.inr (.inr (.inl rfl))) hu I ra rb rx ry hg (ep s I)
      | _ => simp [cmpD] at hg
    | _ => simp [cmpD] at hg
  | GtE =>
    cases a with
    | int i => cases b with
      | int j =>
        simp only [cmpD, Option.some.injEq] at hg
        exact op_ge pins s σ H x y u v Q I rx ry ⟨i, j, ra.int_, rb.int_, by subst hg; exact fin⟩
      | _ => simp [cmpD] at hg
    | tup i => cases b with
      | tup j =>
        simp only [cmpD] at hg
        exact ord_core .GtE (.inr (.inr (.inr rfl))) hu I ra rb rx ry hg (ep s I)
      | _ => simp [cmpD] at hg
    | _ => simp [cmpD] at hg
  | In =>
    simp only [cmpD] at hg
    exact in_core false hu I ra rb rx ry hg ep
  | NotIn =>
    simp only [cmpD] at hg
    obtain ⟨c', hc, rfl⟩ := Option.map_eq_some_iff.mp hg
    exact in_core true hu I ra rb rx ry hc ep
  | Is =>
    simp only [cmpD] at hg
    cases b with
    | non =>
      have e := rb.non_
      subst e
      refine op_isN pins s σ H x _ u v Q I rx ry ⟨rfl, ?_⟩
      cases a with
      | non => simp only [isD, Option.some.injEq] at hg; rw [ra.non_]; simpa [← hg] using fin
      | bl i => simp only [isD, Option.some.injEq] at hg; rw [ra.bl_]; simpa [← hg] using fin
      | int i => simp only [isD, Option.some.injEq] at hg; rw [ra.int_]; simpa [← hg] using fin
      | str i => simp only [isD, Option.some.injEq] at hg; rw [ra.str_.1]; simpa [← hg] using fin
      | tup i => simp only [isD, Option.some.injEq] at hg; obtain ⟨_, _, rfl, _⟩ := ra.tup_; simpa [← hg] using fin
      | lst i => simp only [isD, Option.some.injEq] at hg; obtain ⟨_, _, rfl, _⟩ := ra.lst_; simpa [← hg] using fin
      | dct i j => simp only [isD, Option.some.injEq] at hg; obtain ⟨_, _, rfl, _⟩ := id ra; simpa [← hg] using fin
      | fn i => simp only [isD, Option.some.injEq] at hg; simp only [RepB, Rep] at ra; obtain ⟨_, rfl, _⟩ := ra; simpa [← hg] using fin
      | box => simp only [isD, Option.some.injEq] at hg; simp only [RepB, Rep] at ra; obtain ⟨_, _, rfl, _⟩ := ra; simpa [← hg] using fin
    | bl j =>
      have e := rb.bl_
      subst e
      cases (show v = Value.bool j from ry)
      cases a with
      | bl i =>
        simp only [isD, Option.some.injEq] at hg
        have e := ra.bl_
        subst e
        cases (show u = Value.bool i from rx)
        exact is_bool (by rw [hg]; exact ep s I)
      | non =>
        simp only [isD, Option.some.injEq] at hg
        have e := ra.non_
        subst e
        cases (show u = Value.none from rx)
        subst hg
        exact wpAny_pure (ep s I)
      | _ => simp [isD] at hg
    | _ => cases a <;> simp [isD] at hg
  | IsNot =>
    simp only [cmpD] at hg
    obtain ⟨c', hg0, rfl⟩ := Option.map_eq_some_iff.mp hg
    clear hg
    have hg := hg0
    clear hg0
    cases b with
    | non =>
      have e := rb.non_
      subst e
      refine op_notN pins s σ H x _ u v Q I rx ry ⟨rfl, ?_⟩
      cases a with
      | non => simp only [isD, Option.some.injEq] at hg; rw [ra.non_]; simpa [← hg] using fin
      | bl i => simp only [isD, Option.some.injEq] at hg; rw [ra.bl_]; simpa [← hg] using fin
      | int i => simp only [isD, Option.some.injEq] at hg; rw [ra.int_]; simpa [← hg] using fin
      | str i => simp only [isD, Option.some.injEq] at hg; rw [ra.str_.1]; simpa [← hg] using fin
      | tup i => simp only [isD, Option.some.injEq] at hg; obtain ⟨_, _, rfl, _⟩ := ra.tup_; simpa [← hg] using fin
      | lst i => simp only [isD, Option.some.injEq] at hg; obtain ⟨_, _, rfl, _⟩ := ra.lst_; simpa [← hg] using fin
      | dct i j => simp only [isD, Option.some.injEq] at hg; obtain ⟨_, _, rfl, _⟩ := id ra; simpa [← hg] using fin
      | fn i => simp only [isD, Option.some.injEq] at hg; simp only [RepB, Rep] at ra; obtain ⟨_, rfl, _⟩ := ra; simpa [← hg] using fin
      | box => simp only [isD, Option.some.injEq] at hg; simp only [RepB, Rep] at ra; obtain ⟨_, _, rfl, _⟩ := ra; simpa [← hg] using fin
    | bl j =>
      have e := rb.bl_
      subst e
      cases (show v = Value.bool j from ry)
      cases a with
      | bl i =>
        simp only [isD, Option.some.injEq] at hg
        have e := ra.bl_
        subst e
        cases (show u = Value.bool i from rx)
        refine isnot_bool ?_
        have : (i != j) = !c' := by rw [← hg]; rfl
        rw [this]; exact ep s I
      | non =>
        simp only [isD, Option.some.injEq] at hg
        have e := ra.non_
        subst e
        cases (show u = Value.none from rx)
        subst hg
        exact wpAny_pure (ep s I)
      | _ => simp [isD] at hg
    | _ => cases a <;> simp [isD] at hg
end
end En

/-! The engine, part m: subscripts, slices, built-ins. -/
namespace En
open PySem PySem.Spec PyProof.Rows L2

/-! ### t[::-1] of a tuple -/
section
variable {prog : Program} {w : World} {A : Around} {E : Value → Shared → Prop} {s : Shared}
theorem adjust_rev (n : Nat) : Builtin.Slice.sliceAdjust none none (-1) (n : Int) = ((n : Int) - 1, -1) := by
  unfold Builtin.Slice.sliceAdjust
  have h1 : ((-1 : Int) < 0) := by omega
  simp only [h1, if_true]
theorem places_rev (n : Nat) : Builtin.Slice.slicePlaces ((n : Int) - 1) (-1) (-1) = n := by
  unfold Builtin.Slice.slicePlaces
  have h1 : ¬ (-1 : Int) > 0 := by omega
  simp only [h1, if_false]
  split
  · have : (n : Int) - 1 - -1 - 1 = n - 1 := by omega
    rw [this, show (- -1 : Int) = 1 by decide, Int.ediv_one]
    omega
  · omega
theorem sliceApplied_rev {sl : Addr} {vl vu vs : Value} {n : Nat} {Q : Int × Int × Nat → Shared → Prop} (hs : s.heap.IsSliceOf sl vl vu vs) (pl : IsPart vl none) (pu : IsPart vu none) (ps : IsPart vs (some (-1)))
    (h : Q ((n : Int) - 1, -1, n) s) : wpAny (model prog w) A (Builtin.Slice.sliceApplied (.ref sl) (pure (n : Int))) Q E s := by
  obtain ⟨os, hos, hcs, hds⟩ := id hs
  unfold Builtin.Slice.sliceApplied Builtin.Slice.sliceFields
  refine wpAny_bind (wpAny_bind (wpAny_field hos hds (x := vl) rfl (wpAny_bind (wpAny_field hos hds (x := vu) rfl (wpAny_bind (wpAny_field hos hds (x := vs) rfl (wpAny_pure ?_)))))))
  refine wpAny_bind (HT.slicePart_ ps ?_)
  show wpAny _ _ (if ((-1 : Int) == 0) = true then _ else _) _ _ s
  rw [if_neg (by decide)]
  refine wpAny_bind (HT.slicePart_ pl (wpAny_bind (HT.slicePart_ pu (wpAny_bind (wpAny_pure ?_)))))
  show wpAny _ _ (match Builtin.Slice.sliceAdjust none none (-1) (n : Int) with | (lo, hi) => pure (lo, (-1 : Int), Builtin.Slice.slicePlaces lo hi (-1))) _ _ s
  rw [adjust_rev n]
  show wpAny _ _ (pure ((n : Int) - 1, (-1 : Int), Builtin.Slice.slicePlaces ((n : Int) - 1) (-1) (-1))) _ _ s
  rw [places_rev]
  exact wpAny_pure h
theorem pick_rev (xs : Array Value) : ((List.range xs.size).filterMap fun (m : Nat) => xs[((xs.size : Int) - 1 + (m : Int) * -1).toNat]?).toArray = xs.toList.reverse.toArray := by
  have e : ((List.range xs.size).filterMap fun (m : Nat) => xs[((xs.size : Int) - 1 + (m : Int) * -1).toNat]?) = (((List.range xs.size).map fun k => xs.size - 1 - k).filterMap fun j => xs[j]?) := by
    rw [List.filterMap_map]
    have : ∀ l : List Nat, (∀ m ∈ l, m < xs.size) → l.filterMap (fun (m : Nat) => xs[((xs.size : Int) - 1 + (m : Int) * -1).toNat]?) = l.filterMap ((fun j => xs[j]?) ∘ fun k => xs.size - 1 - k) := by
      intro l
      induction l with
      | nil => intro _; rfl
      | cons m l ih =>
        intro hl
        have hm := hl m (List.mem_cons_self ..)
        have e1 : ((xs.size : Int) - 1 + (m : Int) * -1).toNat = xs.size - 1 - m := by omega
        simp only [List.filterMap_cons, Function.comp, e1, ih fun m' h' => hl m' (List.mem_cons_of_mem _ h')]
    exact this _ fun m h => List.mem_range.mp h
  rw [e, PySem.W.krv_range, List.filterMap_reverse, PySem.W.krv_all]
theorem getItem_tuple_rev {t sl : Addr} {items : Array Value} {vl vu vs : Value} {Q : Value → Shared → Prop} (ht : IsTup s.heap t items) (hs : s.heap.IsSliceOf sl vl vu vs) (pl : IsPart vl none) (pu : IsPart vu none) (ps : IsPart vs (some (-1)))
    (h : Q (.ref s.heap.objs.size) { s with heap := s.heap.push { cls := .type "tuple", data := .seq items.toList.reverse.toArray } })
    (hsz : items.size ≤ sizeLine) : wpAny (model prog w) A (getItem (.ref t) (.ref sl)) Q E s := by
  have htake : sizeOk (.seq items.toList.reverse.toArray) := by
    show items.toList.reverse.toArray.size ≤ sizeLine
    rw [List.size_toArray, List.length_reverse, Array.length_toList]
    exact hsz
  obtain ⟨os, hos, hcs, hds⟩ := id hs
  have hTs : s.TypeIs (.ref sl) "slice" := ⟨os, hos, hcs⟩
  unfold getItem
  try with_reducible refine wpAny_holding ?_
  first | refine wpAny_bind (wpAny_pure ?_) | skip
  refine wpAny_bind (wpAny_sequenceKey ht.typeIs (by decide) ?_)
  refine wpAny_bind (wpAny_callSpecial?_slot (name := Str.ofString "__getitem__") ht.typeIs PyProof.Rows.slot_tuple_getitem
    (wpAny_call_entry PyProof.Rows.slot_tuple_getitem ht.typeIs entry_tuple_getitem ?_ (args_tuple_getitem _ _)))
  show wpAny _ _ (Builtin.Tuple.tupleItemsOf (.ref t) >>= _) _ _ s
  refine wpAny_bind (tupleItemsOf_ ht ?_)
  refine wpAny_bind (wpAny_typeOf hTs ?_)
  rw [if_pos (by decide)]
  refine wpAny_bind (sliceApplied_rev hs pl pu ps ?_)
  have hno : ¬ ((((items.size : Int) - 1) == 0 && (-1 : Int) == 1 && items.size == items.size) = true) := by
    intro q
    rw [Bool.and_eq_true, Bool.and_eq_true] at q
    exact absurd (eq_of_beq q.1.2) (by decide)
  show wpAny _ _ (if (((items.size : Int) - 1) == 0 && (-1 : Int) == 1 && items.size == items.size) = true then _ else _) _ _ s
  rw [if_neg hno, pick_rev]
  first
    | exact wpAny_bind (m := Builtin.Tuple.tupleExact _) (wpAny_newObj_type (wpAny_pure ⟨_, rfl, wpAny_pure h⟩) htake)
    | exact wpAny_bind (m := Builtin.Tuple.tupleExact _) (wpAny_newObj_type (wpAny_bind (wpAny_pure (wpAny_pure ⟨_, rfl, wpAny_pure h⟩))) htake)
    | exact wpAny_bind (wpAny_bind (m := Builtin.Tuple.tupleExact _) (wpAny_newObj_type (wpAny_pure (wpAny_pure ⟨_, rfl, wpAny_pure h⟩)) htake))
    | exact wpAny_bind (wpAny_bind (m := Builtin.Tuple.tupleExact _) (wpAny_newObj_type (wpAny_pure ⟨_, rfl, wpAny_pure h⟩) htake))
end
/-- x[::-1] of a list or a tuple -/
def tRevA (K : PySem.W.Frag) (te : TE) : TE := fun σ H Q => te σ H fun x H1 => ∃ a xs, x = .ref a ∧ ((SqL K H1 a xs ∧ ∀ p, H1 p = none → Q (.ref p) (upd H1 p (.lst xs.reverse))) ∨ (SqT K H1 a xs ∧ ∀ p, H1 p = none → Q (.ref p) (upd H1 p (.tup xs.reverse))))
theorem pe_revA {X : Cx} {e : Expr} {te : TE} {k : Nat} {p1 p2 p3 pos : Pos} (he : PE X e te) : PE X (.Subscript e (.Slice none none (some (.UnaryOp .USub (.Constant (.int 1) k p1) p2)) p3) pos) (tRevA X.K te) := by
  refine ⟨fun pins s σ H Q I h => ?_⟩
  refine Subscript_ (thn (he.run pins s σ H _ I h) fun v s1 ⟨x, H1, I1, r1, q1⟩ => ?_)
  obtain ⟨a, xs, ex, hx⟩ := q1
  subst ex
  cases r1
  have hst : PO X (some (.UnaryOp .USub (.Constant (.int 1) k p1) p2)) (tPart (tUn (rU fun i => .int (-i)) (tC (.int 1)))) := po_some (pe_un un_neg pe_int)
  refine wpAny_Slice (thn (po_none.run pins s1 σ H1 (fun o H2 => o = none ∧ H2 = H1) I1 ⟨rfl, rfl⟩) fun vl s2 ⟨l, H2, I2, pl, el, e2⟩ => ?_)
  subst el e2
  refine thn (po_none.run pins s2 σ H2 (fun o H3 => o = none ∧ H3 = H2) I2 ⟨rfl, rfl⟩) fun vu s3 ⟨u, H3, I3, pu, eu, e3⟩ => ?_
  subst eu e3
  refine thn (hst.run pins s3 σ H3 (fun o H4 => o = some (-1) ∧ H4 = H3) I3 ⟨1, rfl, -1, rfl, rfl, rfl⟩) fun vs s4 ⟨o, H4, I4, ps, eo, e4⟩ => ?_
  subst eo e4
  have I5 : L2.Inv X pins σ H4 { s4 with heap := s4.heap.push { cls := .type "slice", data := .fields #[vl, vu, vs] } } := I4.kept (t' := s4.toks) fun b ob q => Heap.get?_push_of_some _ q
  show wpAny (model X.prog X.w) X.A (subscriptTail e (.Slice none none (some (.UnaryOp .USub (.Constant (.int 1) k p1) p2)) p3) (.ref a) (.ref s4.heap.objs.size)) (EP X pins σ Q) X.xe { s4 with heap := s4.heap.push { cls := .type "slice", data := .fields #[vl, vu, vs] } }
  rcases hx with ⟨hx, q⟩ | ⟨hx, q⟩
  · obtain ⟨its, r, ht, hz⟩ := I5.list hx
    have hlen := r.length
    refine tail_any (ops := [.ref a, .ref s4.heap.objs.size]) ht.isList.typeIs (PySem.slot_list_getitem.lookup) ?_ (by with_unfolding_all rfl)
    refine wpAny_getItem_list_slice ht.isList (Heap.IsSliceOf.new _ vl vu vs) pl pu ps (by decide) ?_ (by rw [List.size_toArray]; omega)
    rw [PySem.W.krv_pick]
    refine ⟨.ref _, _, I5.laid (t' := s4.toks) (o := .lst xs.reverse) (fun b ob q => Heap.get?_push_of_some _ q) (Nat.le_refl _) ?_, rfl, q _ (I5.hok.fresh (Nat.le_refl _))⟩
    exact ⟨by rw [List.length_reverse]; exact hz, _, 0, r.reverse, Heap.get?_push_size _ rfl⟩
  · obtain ⟨its, r, ht, hz⟩ := I5.tuple hx
    have hlen := r.length
    refine tail_any (ops := [.ref a, .ref s4.heap.objs.size]) ht.typeIs (PyProof.Rows.slot_tuple_getitem.lookup) ?_ (by with_unfolding_all rfl)
    refine getItem_tuple_rev ht (Heap.IsSliceOf.new _ vl vu vs) pl pu ps ?_ (by rw [List.size_toArray]; omega)
    refine ⟨.ref _, _, I5.laid (t' := s4.toks) (o := .tup xs.reverse) (fun b ob q => Heap.get?_push_of_some _ q) (Nat.le_refl _) ?_, rfl, q _ (I5.hok.fresh (Nat.le_refl _))⟩
    exact ⟨by rw [List.length_reverse]; exact hz, _, r.reverse, IsTup.new _ _⟩
section
variable {X : Cx} {cl : Calls}
theorem se_rev {a : CE} {e : Expr} {k : Nat} {p1 p2 p3 pos : Pos} (ha : SE X cl a e) : SE X cl (.rev a) (.Subscript e (.Slice none none (some (.UnaryOp .USub (.Constant (.int 1) k p1) p2)) p3) pos) := by
  refine SE.ofN (by simp only [skA, sk]) (PE.imp (pe_revA ha.lk) fun σ H Q q => ?_) (fun _ => rfl)
  obtain ⟨bx, P, env, bs, d, bs', h1, h2, h3⟩ := q
  simp only [ev, bind_def, bnd_some, lift_some] at h2
  obtain ⟨x, b1, ex, eg, rfl⟩ := h2
  simp only [sk] at h1
  refine ⟨bx, P, env, bs, x, _, h1, ex, fun v H1 bx1 e1 r1 => ?_⟩
  have kk : ∀ v H', EPost (RX X bx1) (RX X bx1) H1 H' bs' → NewRep (RX X bx1) (Pn (RX X bx1) (Pn (RX X bx1) P H) H1) H1 H' d v → Q v H' := fun v H3 e3 r3 => h3 v H3 bx1 (e1.trans e3) (r3.back e1 e3)
  unfold revD at eg
  split at eg
  · simp only [Option.some.injEq] at eg; subst eg
    obtain ⟨a, xs, rfl, h1, r1⟩ := r1.tup_
    exact ⟨a, xs, rfl, .inr ⟨h1, fun p hp => ans_tup e1.box hp (fun a p => p.2) kk r1.rev⟩⟩
  · simp only [Option.some.injEq] at eg; subst eg
    obtain ⟨a, xs, rfl, h1, r1⟩ := r1.lst_
    exact ⟨a, xs, rfl, .inl ⟨LstAt.sq (R := RX X bx1) h1, fun p hp => ans_lst e1.box hp (fun a p => p.2) kk r1.rev⟩⟩
  · cases eg
/-! ### a[i] -/
theorem Reps.atI {R : Rx} {P : Addr → Prop} {H : Hp} {ds : List D} {xs : List V} {i : Int} {d : D} (h : Reps R P H ds xs) (e : L2.atI ds i = some d) : ∃ x, L2.atI xs i = some x ∧ Rep R P H d x := by
  unfold L2.atI at *
  rw [h.length] at e
  cases q : ixN xs.length i with
  | none => rw [q] at e; cases e
  | some j =>
    rw [q] at e
    exact h.get e
theorem atS_look {R : Rx} {P : Addr → Prop} {H : Hp} {z : Str} {d : D} : ∀ {ks ds : List D} {xs : List V}, (∀ k ∈ ks, ∃ z, k = .str z) → Reps R P H ds xs → lookD (.str z) ks ds = some d → ∃ x, atS z ks xs = some x ∧ Rep R P H d x
  | [], _, _, _, _, h => by simp [lookD] at h
  | k :: ks, [], _, _, _, h => by simp [lookD] at h
  | k :: ks, d' :: ds, xs, hk, r, h => by
    obtain ⟨x, rv, rfl, hx, t⟩ := r.inv
    obtain ⟨y, rfl⟩ := hk k (List.mem_cons_self ..)
    simp only [lookD] at h
    simp only [atS]
    by_cases e : y = z
    · rw [if_pos (by simpa [keyEq] using e)] at h
      simp only [Option.some.injEq] at h; subst h
      exact ⟨x, if_pos e, hx⟩
    · rw [if_neg (by simpa [keyEq] using e)] at h
      rw [if_neg e]
      exact atS_look (fun k m => hk k (List.mem_cons_of_mem _ m)) t h
theorem look_tup {k0 : D} {c : Key} (hc : keyD k0 = some c) : ∀ {ks ds : List D} {kvs : List (List Key × V)}, ks.map (fun k => match k with | .tup ds => keysD ds | _ => none) = kvs.map (fun kv => some kv.1) → lookD k0 ks ds = none
  | [], _, _, _ => by simp [lookD]
  | k :: ks, [], _, _ => by simp [lookD]
  | k :: ks, d :: ds, [], e => by simp at e
  | k :: ks, d :: ds, p :: kvs, e => by
    simp only [List.map_cons, List.cons.injEq] at e
    have e1 := e.1
    cases k with
    | tup es =>
      have q : keyEq (.tup es) k0 = false := by
        cases k0 with
        | tup _ => simp [keyD] at hc
        | _ => simp [keyEq]
      simp only [lookD, q, Bool.false_eq_true, if_false]
      exact look_tup hc e.2
    | _ => simp at e1
theorem valV_look {R : Rx} {P : Addr → Prop} {H : Hp} {k0 : D} {c0 : Key} {d : D} (hc : keyD k0 = some c0) : ∀ {ks ds : List D} {kvs : List (Key × V)}, ks.map keyD = kvs.map (fun kv => some kv.1) → Reps R P H ds (kvs.map (·.2)) → lookD k0 ks ds = some d → ∃ x, valV kvs c0 = some x ∧ Rep R P H d x
  | [], _, _, _, _, h => by simp [lookD] at h
  | k :: ks, [], _, _, _, h => by simp [lookD] at h
  | k :: ks, d' :: ds, [], e, r, h => by simp at e
  | k :: ks, d' :: ds, p :: kvs, e, r, h => by
    simp only [List.map_cons, List.cons.injEq] at e
    obtain ⟨x, rv, e2, hx, t⟩ := r.inv
    simp only [List.map_cons, List.cons.injEq] at e2
    obtain ⟨rfl, rfl⟩ := e2
    have key : keyEq k k0 = decide (p.1 = c0) := by
      cases k with
      | int i =>
        have e1 := e.1
        simp only [keyD, Option.some.injEq] at e1
        rw [← e1]
        cases k0 with
        | int j => simp only [keyD, Option.some.injEq] at hc; rw [← hc]; simp only [keyEq]; by_cases q : i = j <;> simp [q]
        | str j => simp only [keyD, Option.some.injEq] at hc; rw [← hc]; simp [keyEq]
        | _ => simp [keyD] at hc
      | str i =>
        have e1 := e.1
        simp only [keyD, Option.some.injEq] at e1
        rw [← e1]
        cases k0 with
        | int j => simp only [keyD, Option.some.injEq] at hc; rw [← hc]; simp [keyEq]
        | str j => simp only [keyD, Option.some.injEq] at hc; rw [← hc]; simp only [keyEq]; by_cases q : i = j <;> simp [q]
        | _ => simp [keyD] at hc
      | _ => simp [keyD] at e
    simp only [lookD] at h
    by_cases q : p.1 = c0
    · rw [key, if_pos (by simp [q])] at h
      simp only [Option.some.injEq] at h; subst h
      exact ⟨p.2, valV_pos q, hx⟩
    · rw [key, if_neg (by simp [q])] at h
      rw [valV_neg q]
      exact valV_look hc e.2 t h
theorem look_flat {es : List D} : ∀ {ks ds : List D} {kvs : List (Key × V)}, ks.map keyD = kvs.map (fun kv => some kv.1) → lookD (.tup es) ks ds = none
  | [], _, _, _ => by simp [lookD]
  | k :: ks, [], _, _ => by simp [lookD]
  | k :: ks, d :: ds, [], e => by simp at e
  | k :: ks, d :: ds, p :: kvs, e => by
    simp only [List.map_cons, List.cons.injEq] at e
    have q : keyEq k (.tup es) = false := by
      cases k with
      | tup fs => simp [keyD] at e
      | _ => simp [keyEq]
    simp only [lookD, q, Bool.false_eq_true, if_false]
    exact look_flat e.2
theorem look_strs {es : List D} : ∀ {ks ds : List D}, (∀ k ∈ ks, ∃ z, k = .str z) → lookD (.tup es) ks ds = none
  | [], _, _ => by simp [lookD]
  | k :: ks, [], _ => by simp [lookD]
  | k :: ks, d :: ds, e => by
    obtain ⟨z, rfl⟩ := e k (by simp)
    simp only [lookD, keyEq, Bool.false_eq_true, if_false]
    exact look_strs fun k m => e k (List.mem_cons_of_mem _ m)
theorem ixD : IxD X idxD → True := fun _ => trivial
theorem ixd (hu : X.A.units + 65 < cLine) : IxD X idxD := by
  intro value slice pins s σ H x y v u Q I rx ry h hs
  obtain ⟨bx, P, bs, a, b, d, hb, nob, ra, rb, hg, k⟩ := h
  have fin : ∀ {z : V}, Rep (RX X bx) P H d z → Q z H := fun {z} r => k z H (.refl hb) (Rep.mono (.refl _) (toPn nob) (.refl _ _) _ _ r)
  cases a with
  | tup ds =>
    cases b with
    | int n =>
      simp only [idxD] at hg
      obtain ⟨a1, xs, rfl, h1, r1⟩ := ra.tup_
      obtain ⟨z, hz, rz⟩ := r1.atI hg
      exact ix_tup value slice pins s σ H _ _ v u Q I rx ry ⟨a1, xs, n, z, rfl, rb.int_, h1, hz, fin rz⟩ hs
    | _ => simp [idxD] at hg
  | lst ds =>
    cases b with
    | int n =>
      simp only [idxD] at hg
      obtain ⟨a1, xs, rfl, h1, r1⟩ := ra.lst_
      obtain ⟨z, hz, rz⟩ := r1.atI hg
      exact ix_list value slice pins s σ H _ _ v u Q I rx ry ⟨a1, xs, n, z, rfl, rb.int_, LstAt.sq (R := RX X bx) h1, hz, fin rz⟩ hs
    | _ => simp [idxD] at hg
  | str z =>
    cases b with
    | int n =>
      simp only [idxD] at hg
      split at hg
      · rename_i hz
        obtain ⟨c, hc, rfl⟩ := Option.map_eq_some_iff.mp hg
        obtain ⟨rfl, ok⟩ := ra.str_
        refine ix_str value slice pins s σ H _ _ v u Q I rx ry ⟨z, n, c, rfl, rb.int_, hz, hc, fin ?_⟩ hs
        simp only [Rep]
        refine ⟨trivial, ?_⟩
        have hm : c ∈ z.cps.toList := by
          unfold L2.atI at hc
          obtain ⟨j, _, hj⟩ := Option.bind_eq_some_iff.mp hc
          exact List.mem_of_getElem? hj
        unfold PyData.strOk at ok ⊢
        rw [Array.all_eq_true'] at ok
        simp only [Array.all_eq_true', List.mem_toArray, Array.mem_toArray, List.mem_singleton]
        intro x hx
        have : x = c := by simpa using hx
        subst this
        exact ok x (by simpa using hm)
      · cases hg
    | _ => simp [idxD] at hg
  | dct ks ds =>
    have flat : ∀ {c : Key}, keyD b = some c → lookD b ks ds = some d → RepB (RX X bx) P H b y → y = kV c → wpAny (model X.prog X.w) X.A (subscriptTail value slice v u) (EP X pins σ Q) X.xe s := by
      intro c hc hl _ hy
      obtain ⟨a1, xs, rfl, h1, r1⟩ := id ra
      cases rx
      rcases h1 with ⟨_, kvs, e1, e2, rfl⟩ | ⟨_, kvs, e1, e2, rfl⟩ | ⟨⟨es, n, KD⟩, _, hks, hlen, hval⟩
      · obtain ⟨z, hz, rz⟩ := valV_look hc e2 r1 hl
        obtain ⟨_, hd, vs, rel, dd⟩ := dk_rd I.hok (Rd.of e1)
        refine tail_any dd.mapOf.typeIs slot_dict_getitem.lookup ?_ hs
        exact d_getItem (v := z) (by omega) I (.inl ⟨kvs, c, .of e1, hy, hz.symm⟩) ry fun w' s3 I3 r3 => ⟨z, H, I3, r3, fin rz⟩
      · rw [look_tup hc e2] at hl; cases hl
      · obtain ⟨z0, rfl⟩ : ∃ z0, b = .str z0 := by
          cases ks with
          | nil => simp [lookD] at hl
          | cons k1 ks' =>
            obtain ⟨z1, rfl⟩ := hks k1 (List.mem_cons_self ..)
            cases b with
            | str z0 => exact ⟨z0, rfl⟩
            | int n =>
              exfalso
              have : ∀ (ks : List D) (ds : List D), (∀ k ∈ ks, ∃ z, k = .str z) → lookD (.int n) ks ds = none := by
                intro ks
                induction ks with
                | nil => intro ds _; simp [lookD]
                | cons k ks ih =>
                  intro ds hk
                  cases ds with
                  | nil => simp [lookD]
                  | cons d ds =>
                    obtain ⟨z, rfl⟩ := hk k (List.mem_cons_self ..)
                    simp only [lookD, keyEq]
                    exact ih ds fun k m => hk k (List.mem_cons_of_mem _ m)
              rw [this _ _ hks] at hl; cases hl
            | _ => simp [keyD] at hc
        obtain ⟨z, hz, rz⟩ := atS_look hks r1 hl
        obtain ⟨r, hr, rel⟩ := hval z0
        rw [hz] at rel
        obtain ⟨w', hw, rw'⟩ := RelO.some_of (v := z) (o := r) rel
        subst hw
        simp only [keyD, Option.some.injEq] at hc
        subst hc
        exact ix_kdict value slice pins s σ H (.ref a1) y (.ref a1) u Q I rfl ry ⟨a1, z0, z, rfl, hy, ⟨es, n, w', KD.at_, KD.lit, hr, rw'⟩, fin rz⟩ hs
    cases b with
    | str z => simp only [idxD] at hg; exact flat rfl hg rb rb.str_.1
    | int n => simp only [idxD] at hg; exact flat rfl hg rb rb.int_
    | tup es =>
      simp only [idxD] at hg
      split at hg
      · rename_i hs0
        obtain ⟨k0, hk0⟩ := Option.isSome_iff_exists.mp hs0
        obtain ⟨b1, ys, hx, hb1, rb1⟩ := rb.tupH
        have hys := keys_vals hk0 rb1
        subst hys
        obtain ⟨a1, xs, rfl, h1, r1⟩ := id ra
        cases rx
        rcases h1 with ⟨_, kvs, e1, e2, rfl⟩ | ⟨_, kvs, e1, e2, rfl⟩ | ⟨_, hne, hks, _⟩
        · rw [look_flat e2] at hg; cases hg
        · obtain ⟨z, hz, rz⟩ := valV_lookT hk0 e2 r1 hg
          obtain ⟨_, hd, xs', rel, dd⟩ := dt_rd I.hok (Rd.of e1)
          refine tail_any dd.typeIs slot_dict_getitem.lookup ?_ hs
          exact d_getItem (v := z) (by omega) I (.inr ⟨kvs, k0, b1, .of e1, hx, hb1, hz.symm⟩) ry fun w' s3 I3 r3 => ⟨z, H, I3, r3, fin rz⟩
        · rw [look_strs hks] at hg; cases hg
      · cases hg
    | _ => simp [idxD] at hg
  | _ => simp [idxD] at hg
end
end En

/-! The engine, part n: slices, built-ins by value. -/
namespace En
open PySem PySem.Spec PyProof.Rows L2
section
variable {X : Cx} {cl : Calls}
theorem Reps.cut {R : Rx} {P : Addr → Prop} {H : Hp} {ds : List D} {xs : List V} (h : Reps R P H ds xs) (lo hi : Option Int) : Reps R P H (cutD ds lo hi) (cutV xs lo hi) := by
  unfold cutD cutV
  rw [h.length]
  exact (h.drop _).take _
theorem sld : SlD X slcD := by
  intro pins s σ H x v vl vu lo hi sl Q I rx hs pl pu h
  obtain ⟨bx, P, bs, a, d, hb, nob, ra, hg, k⟩ := h
  cases a with
  | tup ds =>
    simp only [slcD, Option.some.injEq] at hg; subst hg
    obtain ⟨a1, xs, rfl, h1, r1⟩ := ra.tupH
    refine sl_tupA pins s σ H _ v vl vu lo hi sl Q I rx hs pl pu ⟨a1, xs, rfl, .inl (.inl h1), fun e => ?_, fun _ p hp => ans_tup hb hp nob k (r1.cut lo hi)⟩
    refine ans_same hb k rfl (Rep.tupOfP (toPn nob) h1 ?_)
    have : cutV xs lo hi = xs := by
      unfold cutV
      rw [e.1, e.2]
      simp
    have c := r1.cut lo hi
    rwa [this] at c
  | lst ds =>
    simp only [slcD, Option.some.injEq] at hg; subst hg
    obtain ⟨a1, xs, rfl, h1, r1⟩ := ra.lst_
    exact sl_list pins s σ H _ v vl vu lo hi sl Q I rx hs pl pu ⟨a1, xs, rfl, LstAt.sq (R := RX X bx) h1, fun p hp => ans_lst hb hp nob k (r1.cut lo hi)⟩
  | str z =>
    simp only [slcD] at hg
    split at hg
    · rename_i hz
      simp only [Option.some.injEq] at hg; subst hg
      obtain ⟨rfl, ok⟩ := ra.str_
      exact sl_str pins s σ H _ v vl vu lo hi sl Q I rx hs pl pu ⟨z, rfl, hz.1, ans_same hb k rfl (by simp only [Rep]; exact ⟨trivial, hz.2⟩)⟩
    · cases hg
  | _ => simp [slcD] at hg
/-! ### built-ins -/
theorem Reps.ints {R : Rx} {P : Addr → Prop} {H : Hp} : ∀ {ds : List D} {xs : List V} {ns : List Int}, Reps R P H ds xs → intsD ds = some ns → xs = ns.map V.int
  | [], _, _, h, e => by simp only [intsD, Option.some.injEq] at e; subst e; rw [h.invNil]; rfl
  | d :: ds, _, _, h, e => by
    obtain ⟨x, r, rfl, hx, t⟩ := h.inv
    cases d with
    | int i =>
      simp only [intsD] at e
      obtain ⟨ns, e1, rfl⟩ := Option.map_eq_some_iff.mp e
      simp only [Rep] at hx
      rw [hx, Reps.ints t e1]; rfl
    | _ => simp [intsD] at e
theorem Reps.bls {R : Rx} {P : Addr → Prop} {H : Hp} : ∀ {ds : List D} {xs : List V} {ns : List Bool}, Reps R P H ds xs → blsD ds = some ns → xs = ns.map V.bl
  | [], _, _, h, e => by simp only [blsD, Option.some.injEq] at e; subst e; rw [h.invNil]; rfl
  | d :: ds, _, _, h, e => by
    obtain ⟨x, r, rfl, hx, t⟩ := h.inv
    cases d with
    | bl i =>
      simp only [blsD] at e
      obtain ⟨ns, e1, rfl⟩ := Option.map_eq_some_iff.mp e
      simp only [Rep] at hx
      rw [hx, Reps.bls t e1]; rfl
    | _ => simp [blsD] at e
theorem foldl_max : ∀ (ns : List Int) (n : Int), ns.foldl max n ∈ n :: ns ∧ ∀ y ∈ n :: ns, y ≤ ns.foldl max n
  | [], n => ⟨by simp, fun y h => by simp at h; subst h; exact Int.le_refl _⟩
  | m :: ns, n => by
    obtain ⟨h1, h2⟩ := foldl_max ns (max n m)
    simp only [List.foldl_cons]
    refine ⟨?_, fun y h => ?_⟩
    · rcases List.mem_cons.mp h1 with e | e
      · rw [e]
        rcases Int.le_total n m with q | q
        · rw [Int.max_eq_right q]; simp
        · rw [Int.max_eq_left q]; simp
      · exact List.mem_cons_of_mem _ (List.mem_cons_of_mem _ e)
    · have h3 := h2 (max n m) (List.mem_cons_self ..)
      rcases List.mem_cons.mp h with e | e
      · subst e; omega
      · rcases List.mem_cons.mp e with e | e
        · subst e; omega
        · exact h2 y (List.mem_cons_of_mem _ e)
theorem foldl_min : ∀ (ns : List Int) (n : Int), ns.foldl min n ∈ n :: ns ∧ ∀ y ∈ n :: ns, ns.foldl min n ≤ y
  | [], n => ⟨by simp, fun y h => by simp at h; subst h; exact Int.le_refl _⟩
  | m :: ns, n => by
    obtain ⟨h1, h2⟩ := foldl_min ns (min n m)
    simp only [List.foldl_cons]
    refine ⟨?_, fun y h => ?_⟩
    · rcases List.mem_cons.mp h1 with e | e
      · rw [e]
        rcases Int.le_total n m with q | q
        · rw [Int.min_eq_left q]; simp
        · rw [Int.min_eq_right q]; simp
      · exact List.mem_cons_of_mem _ (List.mem_cons_of_mem _ e)
    · have h3 := h2 (min n m) (List.mem_cons_self ..)
      rcases List.mem_cons.mp h with e | e
      · subst e; omega
      · rcases List.mem_cons.mp e with e | e
        · subst e; omega
        · exact h2 y (List.mem_cons_of_mem _ e)
def biV : BI → Value
  | .len => .builtin "len" | .int => .type "int" | .abs => .builtin "abs" | .tuple => .type "tuple" | .list => .type "list" | .sum => .builtin "sum" | .all => .builtin "all" | .any => .builtin "any"
  | .max1 => .builtin "max" | .min1 => .builtin "min" | .max2 => .builtin "max" | .min2 => .builtin "min" | .str => .type "str" | .sorted => .builtin "sorted" | .isi _ => .builtin "isinstance"
def biN : BI → Str
  | .len => "len" | .int => "int" | .abs => "abs" | .tuple => "tuple" | .list => "list" | .sum => "sum" | .all => "all" | .any => "any"
  | .max1 => "max" | .min1 => "min" | .max2 => "max" | .min2 => "min" | .str => "str" | .sorted => "sorted" | .isi _ => "isinstance"
theorem biN_boot (b : BI) : bootBuiltins (biN b) = some (biV b) := by cases b <;> (simp only [biN, biV]; decide +kernel)
theorem biV_kind (b : BI) : (∃ id, biV b = .builtin id) ∨ ∃ T, biV b = .type T := by cases b <;> first | exact .inl ⟨_, rfl⟩ | exact .inr ⟨_, rfl⟩
theorem biN_name (b : BI) : biN b ≠ "__name__" ∧ (biN b == ("__debug__" : Str)) = false := by cases b <;> (simp only [biN]; decide +kernel)
theorem RepBs.one {R : Rx} {P : Addr → Prop} {H : Hp} {d : D} {vs : List V} (h : RepBs R P H [d] vs) : ∃ x, vs = [x] ∧ RepB R P H d x := by
  obtain ⟨x, r, rfl, hx, h2⟩ := h
  simp only [RepBs] at h2
  subst h2
  exact ⟨x, rfl, hx⟩
theorem RepBs.two {R : Rx} {P : Addr → Prop} {H : Hp} {d e : D} {vs : List V} (h : RepBs R P H [d, e] vs) : ∃ x y, vs = [x, y] ∧ RepB R P H d x ∧ RepB R P H e y := by
  obtain ⟨x, r, rfl, hx, y, r2, rfl, hy, h2⟩ := h
  simp only [RepBs] at h2
  subst h2
  exact ⟨x, y, rfl, hx, hy⟩
def isIsi : BI → Bool
  | .isi _ => true
  | _ => false
theorem log2_small {i : Int} (h : i.natAbs < 2 ^ 64) : i.natAbs.log2 < 1920 := by
  by_cases z : i.natAbs = 0
  · rw [z]; decide
  · have := (Nat.log2_lt z).mpr h
    omega
theorem strOk_int (i : Int) : PyData.strOk (toString i : Str) = true := by
  show PyData.strOk (Str.ofString (toString i)) = true
  rw [Str.ofString_eq_toList]
  unfold PyData.strOk
  rw [Array.all_eq_true_iff_forall_mem]
  intro x hx
  simp only [List.mem_toArray, List.mem_map] at hx
  obtain ⟨c, _, rfl⟩ := hx
  have := c.valid
  unfold UInt32.isValidChar Nat.isValidChar at this
  simp only [decide_eq_true_eq]
  show c.val.toNat < _
  omega
theorem sort_unique {ns ns' : List Int} (hp : ns'.Perm ns) (hs : ns'.Pairwise (· ≤ ·)) : ns' = ns.mergeSort (· ≤ ·) := by
  refine List.Perm.eq_of_pairwise (le := (· ≤ ·)) (fun a b _ _ h1 h2 => by omega) hs ?_ (hp.trans (List.mergeSort_perm ns _).symm)
  exact (List.pairwise_mergeSort (le := fun a b : Int => decide (a ≤ b)) (fun a b c h1 h2 => by simp at h1 h2 ⊢; omega) (fun a b => by simp; omega) ns).imp fun h => by simpa using h
theorem Reps.ofInts {R : Rx} {P : Addr → Prop} {H : Hp} : ∀ (ns : List Int), Reps R P H (ns.map .int) (ns.map V.int)
  | [] => by simp only [List.map_nil, Reps]
  | n :: ns => by
    have := Reps.ofInts (R := R) (P := P) (H := H) ns
    simp only [List.map_cons, Reps]
    exact ⟨_, _, rfl, by simp only [Rep], this⟩
theorem bid (hc : X.calm = true) (hu : X.A.units + 65 < cLine) (b : BI) (hi : isIsi b = false) : CallD X (biV b) (biD b) := by
  intro pins s σ H vs us Q I r h
  obtain ⟨bx, P, bs, ds, d, hb, nob, ra, hg, k⟩ := h
  have fin : ∀ {z : V}, isMut d = false → Rep (RX X bx) P H d z → Q z H := fun {z} m r => ans_same hb k m (Rep.mono (.refl _) (toPn nob) (.refl _ _) _ _ r)
  unfold biD at hg
  split at hg
  · obtain ⟨n, hn, rfl⟩ := Option.map_eq_some_iff.mp hg
    obtain ⟨v, rfl, rv⟩ := ra.one
    rename_i x
    have fl : Q (.int (n : Int)) H := fin rfl (by simp only [Rep])
    have gen : LenV X.K v H n → wpAny (model X.prog X.w) X.A (call (biV .len) us) (EP X pins σ Q) X.xe s := fun hl => call_len pins s σ H _ us Q I r ⟨v, n, rfl, hl, fl⟩
    cases x with
    | str z =>
      simp only [lenD] at hn
      split at hn
      · rename_i hz; simp only [Option.some.injEq] at hn; obtain ⟨rfl, _⟩ := rv.str_; exact gen ⟨hz, hn.symm⟩
      · cases hn
    | tup ds => simp only [lenD, Option.some.injEq] at hn; obtain ⟨a, xs, rfl, h1, r1⟩ := rv.tup_; exact gen (.inr ⟨xs, h1, by rw [← hn, r1.length]⟩)
    | lst ds => simp only [lenD, Option.some.injEq] at hn; obtain ⟨a, xs, rfl, h1, r1⟩ := rv.lst_; exact gen (.inl ⟨xs, LstAt.sq (R := RX X bx) h1, by rw [← hn, r1.length]⟩)
    | dct ks vs =>
      simp only [lenD] at hn
      split at hn
      · rename_i hk
        simp only [Option.some.injEq] at hn
        obtain ⟨a, xs, rfl, h1, r1⟩ := id rv
        rcases h1 with ⟨_, kvs, e1, e2, _⟩ | ⟨_, kvs, e1, e2, _⟩ | ⟨_, hne, hks, _⟩
        · have := congrArg List.length e2
          simp only [List.length_map] at this
          exact call_lenD pins s σ H _ us Q I r ⟨a, kvs, rfl, e1, by rw [← this, hn]; exact fl⟩
        · have := congrArg List.length e2
          simp only [List.length_map] at this
          exact call_len_dT pins s σ H _ us Q I r ⟨a, kvs, rfl, e1, by rw [← this, hn]; exact fl⟩
        · exfalso
          cases ks with
          | nil => exact hne rfl
          | cons k ks =>
            obtain ⟨z, rfl⟩ := hks k (by simp)
            simp [isIntD, isTupD] at hk
      · cases hn
    | _ => simp [lenD] at hn
  · simp only [Option.some.injEq] at hg; subst hg
    obtain ⟨v, rfl, rv⟩ := ra.one
    rw [rv.int_] at r
    exact call_int1 pins s σ H _ us Q I r (.inl ⟨_, rfl, fin rfl (by simp only [Rep])⟩)
  · simp only [Option.some.injEq] at hg; subst hg
    obtain ⟨v, rfl, rv⟩ := ra.one
    rw [rv.bl_] at r
    exact call_int1 pins s σ H _ us Q I r (.inr ⟨_, rfl, fin rfl (by simp only [Rep])⟩)
  · simp only [Option.some.injEq] at hg; subst hg
    obtain ⟨v, rfl, rv⟩ := ra.one
    rw [rv.int_] at r
    exact call_abs pins s σ H _ us Q I r ⟨_, rfl, fin rfl (by simp only [Rep])⟩
  · simp only [Option.some.injEq] at hg; subst hg
    obtain ⟨v, rfl, rv⟩ := ra.one
    obtain ⟨a, xs, rfl, h1, r1⟩ := rv.lst_
    exact call_tuple_of pins s σ H _ us Q I r ⟨a, xs, rfl, .inl ⟨LstAt.sq (R := RX X bx) h1, fun p hp => ans_tup hb hp nob k r1⟩⟩
  · simp only [Option.some.injEq] at hg; subst hg
    obtain ⟨v, rfl, rv⟩ := ra.one
    obtain ⟨a, xs, rfl, h1, r1⟩ := rv.tupH
    exact call_tuple_of pins s σ H _ us Q I r ⟨a, xs, rfl, .inr ⟨.inl (.inl h1), fin rfl (Rep.tupOf h1 r1)⟩⟩
  · simp only [Option.some.injEq] at hg; subst hg
    obtain ⟨v, rfl, rv⟩ := ra.one
    obtain ⟨a, xs, rfl, h1, r1⟩ := rv.lst_
    exact call_list_of pins s σ H _ us Q I r ⟨a, xs, rfl, .inl (LstAt.sq (R := RX X bx) h1), fun p hp => ans_lst hb hp nob k r1⟩
  · simp only [Option.some.injEq] at hg; subst hg
    obtain ⟨v, rfl, rv⟩ := ra.one
    obtain ⟨a, xs, rfl, h1, r1⟩ := rv.tup_
    exact call_list_of pins s σ H _ us Q I r ⟨a, xs, rfl, .inr h1, fun p hp => ans_lst hb hp nob k r1⟩
  · obtain ⟨n, hn, rfl⟩ := Option.map_eq_some_iff.mp hg
    obtain ⟨v, rfl, rv⟩ := ra.one
    obtain ⟨a, xs, rfl, h1, r1⟩ := rv.lst_
    have e := r1.ints hn
    subst e
    exact cr_sum hc pins s σ H _ us Q I r ⟨a, n, rfl, LstAt.sq (R := RX X bx) h1, fin rfl (by simp only [Rep])⟩
  · obtain ⟨n, hn, rfl⟩ := Option.map_eq_some_iff.mp hg
    obtain ⟨v, rfl, rv⟩ := ra.one
    obtain ⟨a, xs, rfl, h1, r1⟩ := rv.lst_
    have e := r1.bls hn
    subst e
    exact cr_all hc pins s σ H _ us Q I r ⟨a, n, rfl, LstAt.sq (R := RX X bx) h1, fin rfl (by simp only [Rep])⟩
  · obtain ⟨n, hn, rfl⟩ := Option.map_eq_some_iff.mp hg
    obtain ⟨v, rfl, rv⟩ := ra.one
    obtain ⟨a, xs, rfl, h1, r1⟩ := rv.lst_
    have e := r1.bls hn
    subst e
    exact cr_any hc pins s σ H _ us Q I r ⟨a, n, rfl, LstAt.sq (R := RX X bx) h1, fin rfl (by simp only [Rep])⟩
  · split at hg
    · rename_i n ns hn
      simp only [Option.some.injEq] at hg; subst hg
      obtain ⟨v, rfl, rv⟩ := ra.one
      obtain ⟨a, xs, rfl, h1, r1⟩ := rv.lst_
      have e := r1.ints hn
      subst e
      refine cr_max hc pins s σ H _ us Q I r ⟨a, n :: ns, rfl, LstAt.sq (R := RX X bx) h1, by simp, fun m hm hle => fin rfl ?_⟩
      simp only [Rep]
      obtain ⟨f1, f2⟩ := foldl_max ns n
      have := f2 m hm
      have := hle _ f1
      congr 1; omega
    · cases hg
  · split at hg
    · rename_i n ns hn
      simp only [Option.some.injEq] at hg; subst hg
      obtain ⟨v, rfl, rv⟩ := ra.one
      obtain ⟨a, xs, rfl, h1, r1⟩ := rv.lst_
      have e := r1.ints hn
      subst e
      refine cr_min hc pins s σ H _ us Q I r ⟨a, n :: ns, rfl, LstAt.sq (R := RX X bx) h1, by simp, fun m hm hle => fin rfl ?_⟩
      simp only [Rep]
      obtain ⟨f1, f2⟩ := foldl_min ns n
      have := f2 m hm
      have := hle _ f1
      congr 1; omega
    · cases hg
  · simp only [Option.some.injEq] at hg; subst hg
    obtain ⟨v, v2, rfl, rv, rv2⟩ := ra.two
    rw [rv.int_, rv2.int_] at r
    exact call_max2 hc pins s σ H _ us Q I r ⟨_, _, rfl, fin rfl (by simp only [Rep])⟩
  · simp only [Option.some.injEq] at hg; subst hg
    obtain ⟨v, v2, rfl, rv, rv2⟩ := ra.two
    rw [rv.int_, rv2.int_] at r
    exact call_min2 hc pins s σ H _ us Q I r ⟨_, _, rfl, fin rfl (by simp only [Rep])⟩
  · split at hg
    · rename_i i hz
      simp only [Option.some.injEq] at hg; subst hg
      obtain ⟨v, rfl, rv⟩ := ra.one
      rw [rv.int_] at r
      refine call_str_int pins s σ H _ us Q I r ⟨i, rfl, log2_small hz, fin rfl ?_⟩
      simp only [Rep]
      exact ⟨trivial, strOk_int i⟩
    · cases hg
  · obtain ⟨v, rfl, rv⟩ := ra.one
    obtain ⟨a, xs, rfl, h1, h2⟩ := rv
    split at hg
    · rename_i ns hn
      simp only [Option.some.injEq] at hg; subst hg
      have e := h2.ints hn
      subst e
      refine cr_sortedI pins s σ H _ us Q I r ⟨a, ns, rfl, LstAt.sq (R := RX X bx) h1, fun ns' p hp hs hn' => ?_⟩
      have e : ns' = ns.mergeSort (· ≤ ·) := sort_unique hp hs
      subst e
      exact ans_lst hb hn' nob k (Reps.ofInts _)
    · split at hg
      · rename_i ps hps
        split at hg
        · rename_i hok
          simp only [Option.some.injEq] at hg; subst hg
          obtain ⟨u, rfl, ru⟩ := vals1 r
          obtain rfl : u = Value.ref a := ru
          exact sort_list hu I (LstAt.sq (R := RX X bx) h1) h2 hps hok fun p ys hp rs s' I' => ⟨.ref p, _, I', rfl, ans_lst hb hp nob k rs⟩
        · cases hg
      · cases hg
  · rename_i ks vs
    obtain ⟨v, rfl, rv⟩ := ra.one
    obtain ⟨a, xs, rfl, h1, h2⟩ := id rv
    split at hg
    · rename_i hkt
      split at hg
      · rename_i ps hps
        split at hg
        · rename_i hok
          simp only [Option.some.injEq] at hg; subst hg
          obtain ⟨u, rfl, ru⟩ := vals1 r
          obtain rfl : u = Value.ref a := ru
          rcases h1 with ⟨_, kvs, e1, e2, _⟩ | ⟨_, kvs, e1, e2, _⟩ | ⟨_, hne, hks, _⟩
          · have hk0 : ks = [] := by
              cases ks with
              | nil => rfl
              | cons k1 ks =>
                simp only [List.all_cons, Bool.and_eq_true] at hkt
                cases kvs with
                | nil => simp at e2
                | cons kv kvs =>
                  simp only [List.map_cons, List.cons.injEq] at e2
                  cases k1 with
                  | tup j => simp [keyD] at e2
                  | _ => simp [isTupD] at hkt
            subst hk0
            cases kvs with
            | cons _ _ => simp at e2
            | nil =>
              refine sort_dict (bx := bx) (P := P) hc hu (emptyT I e1) (Rd.of upd_same) (kvs := []) rfl hps hok fun p ys hp rs s' I' => ?_
              have hpa : p ≠ a := fun z => by rw [z, upd_same] at hp; cases hp
              rw [upd_ne hpa] at hp
              rw [List.mergeSort_nil] at rs
              have hys := rs.invNil
              subst hys
              have I2 := emptyK I' (a := a) (by rw [upd_ne (Ne.symm hpa), upd_same])
              have e : upd (upd (upd H a (.dT [])) p (.lst [])) a (.dK []) = upd H p (.lst []) := by
                funext b
                by_cases q1 : b = a
                · subst q1; rw [upd_same, upd_ne (Ne.symm hpa), e1]
                · rw [upd_ne q1]
                  by_cases q2 : b = p
                  · subst q2; rw [upd_same, upd_same]
                  · rw [upd_ne q2, upd_ne q1, upd_ne q2]
              rw [e] at I2
              refine ⟨.ref p, _, I2, rfl, ans_lst hb hp nob k ?_⟩
              rw [List.mergeSort_nil]; exact .nil
          · exact sort_dict hc hu I (Rd.of e1) e2 hps hok fun p ys hp rs s' I' => ⟨.ref p, _, I', rfl, ans_lst hb hp nob k rs⟩
          · exfalso
            cases ks with
            | nil => exact hne rfl
            | cons k1 ks =>
              obtain ⟨z, rfl⟩ := hks k1 (by simp)
              simp [isTupD] at hkt
        · cases hg
      · cases hg
    · cases hg
  · simp [isIsi] at hi
  · cases hg
/-! ### isinstance -/
def tyD : D → Option String
  | .non => some "NoneType"
  | .bl _ => some "bool"
  | .int _ => some "int"
  | .str _ => some "str"
  | .tup _ => some "tuple"
  | .lst _ => some "list"
  | _ => none
theorem kit5 {a b : String} (ha : a ∈ ["NoneType", "bool", "int", "str", "tuple", "list"]) (hb : b ∈ ["bool", "int", "str", "tuple", "list"]) : kitB a b = some (a == b || (a == "bool" && b == "int")) := by
  simp only [List.mem_cons, List.not_mem_nil, or_false] at ha hb
  rcases ha with rfl | rfl | rfl | rfl | rfl | rfl <;> rcases hb with rfl | rfl | rfl | rfl | rfl <;> decide +kernel
theorem isi_kit {x : D} {T : String} {b : Bool} (h : isiD x T = some b) : ∃ a, tyD x = some a ∧ kitB a T = some b := by
  have hT : T ∈ ["bool", "int", "str", "tuple", "list"] := by
    by_cases h1 : T = "int"
    · simp [h1]
    by_cases h2 : T = "bool"
    · simp [h2]
    by_cases h3 : T = "str"
    · simp [h3]
    by_cases h4 : T = "tuple"
    · simp [h4]
    by_cases h5 : T = "list"
    · simp [h5]
    cases x <;> simp [isiD, h1, h2, h3, h4, h5] at h
  have fin : ∀ a, a ∈ ["NoneType", "bool", "int", "str", "tuple", "list"] → tyD x = some a → isiD x T = some (a == T || (a == "bool" && T == "int")) → ∃ a, tyD x = some a ∧ kitB a T = some b := fun a ha e1 e2 => by
    rw [h] at e2
    exact ⟨a, e1, by rw [kit5 ha hT, ← e2]⟩
  simp only [List.mem_cons, List.not_mem_nil, or_false] at hT
  cases x with
  | non => exact fin _ (by simp) rfl (by rcases hT with rfl | rfl | rfl | rfl | rfl <;> rfl)
  | bl _ => exact fin _ (by simp) rfl (by rcases hT with rfl | rfl | rfl | rfl | rfl <;> rfl)
  | int _ => exact fin _ (by simp) rfl (by rcases hT with rfl | rfl | rfl | rfl | rfl <;> rfl)
  | str _ => exact fin _ (by simp) rfl (by rcases hT with rfl | rfl | rfl | rfl | rfl <;> rfl)
  | tup _ => exact fin _ (by simp) rfl (by rcases hT with rfl | rfl | rfl | rfl | rfl <;> rfl)
  | lst _ => exact fin _ (by simp) rfl (by rcases hT with rfl | rfl | rfl | rfl | rfl <;> rfl)
  | _ => simp [isiD] at h
theorem RepB.ty {bx : Option (Addr × Addr)} {P : Addr → Prop} {H : Hp} {d : D} {v : V} {a : String} (h : RepB (RX X bx) P H d v) (e : tyD d = some a) : TyX X.K H v (.type a) := by
  cases d with
  | non => simp only [tyD, Option.some.injEq] at e; subst e; rw [h.non_]; exact .base .non
  | bl _ => simp only [tyD, Option.some.injEq] at e; subst e; rw [h.bl_]; exact .base (.bl _)
  | int _ => simp only [tyD, Option.some.injEq] at e; subst e; rw [h.int_]; exact .base (.int _)
  | str _ => simp only [tyD, Option.some.injEq] at e; subst e; rw [h.str_.1]; exact .base (.str _)
  | tup _ =>
    simp only [tyD, Option.some.injEq] at e; subst e
    obtain ⟨p, xs, rfl, h1, _⟩ := h.tup_
    rcases h1 with (h1 | ⟨o, h1⟩) | ⟨o, its, n, h1, h2, _⟩
    · exact .base (.tup h1)
    · exact .fTuple h1
    · exact .kTuple h1 h2
  | lst _ =>
    simp only [tyD, Option.some.injEq] at e; subst e
    obtain ⟨p, xs, rfl, h1, _⟩ := h.lst_
    rcases h1 with ⟨_, h1⟩ | ⟨o, h1⟩
    · exact .base (.lst h1)
    · exact .base (.frz h1)
  | _ => simp [tyD] at e
theorem pe_tyName {x : Str} {T : String} {pos : Pos} (hg : Gl X x) (hm : X.mg x = none) (hv : bootBuiltins x = some (.type T)) (hn : x ≠ "__name__") (hd : (x == ("__debug__" : Str)) = false) : PE X (.Name x pos) (tC (.ty T)) :=
  ⟨fun _ _ _ H _ I h => ld_blt I hg hm hv ⟨.ty T, H, I, rfl, h⟩ hn hd⟩
theorem se_isi {c : CE} {e : Expr} {T : String} {p p2 pos : Pos} (hT : ["bool", "int", "str", "tuple", "list"].contains T = true) (hg : Gl X "isinstance") (hm : X.mg "isinstance" = none) (hg2 : Gl X (Str.ofString T)) (hm2 : X.mg (Str.ofString T) = none) (hn : ns e = true) (h : SE X cl c e) :
    SE X cl (.bi (.isi T) (.cons c .nil)) (.Call (.Name "isinstance" p) [e, .Name (Str.ofString T) p2] [] pos) := by
  have boot : bootBuiltins (Str.ofString T) = some (.type T) ∧ (Str.ofString T) ≠ "__name__" ∧ ((Str.ofString T) == ("__debug__" : Str)) = false := by
    simp only [List.contains_cons, List.contains_nil, Bool.or_false, Bool.or_eq_true, beq_iff_eq] at hT
    rcases hT with rfl | rfl | rfl | rfl | rfl <;> decide +kernel
  refine SE.of (by simp only [skA, sk]) rfl (PE.imp (pe_callB call_isi hg hm boot_isinstance (pa_cons h.lk (pa_cons (pe_tyName hg2 hm2 boot.1 boot.2.1 boot.2.2) pa_nil) (star_ns hn)) (by decide) (by decide) (star_ns hn)) fun σ H Q q => ?_) (fun _ => rfl)
  obtain ⟨bx, P, env, bs, d, bs', h1, h2, h3⟩ := q
  simp only [ev, evs, bind_def, pure_def, bnd_some, lift_some, ret_some] at h2
  obtain ⟨ds, _, ⟨x, b1, ex, r, b2, ⟨rfl, rfl⟩, rfl, rfl⟩, eg, rfl⟩ := h2
  simp only [sk, sks, List.append_nil] at h1
  simp only [biD] at eg
  obtain ⟨b, hb, rfl⟩ := Option.map_eq_some_iff.mp eg
  refine ⟨bx, P, env, bs, x, _, h1, ex, fun v H1 bx1 e1 r1 => ?_⟩
  obtain ⟨a, ea, ek⟩ := isi_kit hb
  exact ⟨v, .ty T, .type a, .type T, b, rfl, .ty T, r1.ty ea, kit_ty ek, h3 _ _ bx1 e1 (by simp only [Rep])⟩
end
end En

/-! The engine, part n2: methods and some calls in calls. -/
namespace En
open PySem PySem.Spec PyProof.Rows L2
section
variable {X : Cx} {cl : Calls}
/-- what cannot be said: no run of it is asked for -/
theorem ev_stk {a : CE} {es : CEs} {env : Env} {bs : BS} {d : D} {b : BS} : ev cl (.mth .stk a es) env bs = some (d, b) → False := by
  intro h
  simp only [ev, bind_def, bnd_some, lift_some] at h
  obtain ⟨x, b1, _, ds, b2, _, h, _⟩ := h
  cases ds <;> simp [mthD] at h
theorem PE.no {e : Expr} {t : TE} (h : ∀ σ H Q, ¬ t σ H Q) : PE X e t := ⟨fun pins s σ H Q I q => (h σ H Q q).elim⟩
theorem PT.no {e : Expr} {t : TT} (h : ∀ σ H Q, ¬ t σ H Q) : PT X e t := ⟨fun pins s σ H Q I q => (h σ H Q q).elim⟩
theorem se_stk {a : CE} {es : CEs} {e : Expr} : SE X cl (.mth .stk a es) e := by
  refine ⟨PE.no fun σ H Q q => ?_, PE.no fun σ H Q q => ?_, PT.no fun σ H Q q => ?_, fun z => by cases z⟩
  · obtain ⟨bx, P, env, bs, d, bs', _, h2, _⟩ := q
    exact ev_stk h2
  · obtain ⟨bx, P, env, bs, d, bs', _, h2, _⟩ := q
    exact ev_stk h2
  · obtain ⟨bx, P, env, bs, d, bs', _, h2, _⟩ := q
    obtain ⟨x, b1, h4, _⟩ := bnd_some.mp h2
    exact ev_stk h4
theorem se_upper {a : CE} {o : Expr} {apos pos : Pos} (ha : SE X cl a o) (hbase : attributeBase o "upper" X.env (eval o X.env) = eval o X.env) (hline : (apos.endLine == pos.line) = true) :
    SE X cl (.mth .upper a .nil) (.Call (.Attribute o "upper" apos) [] [] pos) := by
  refine SE.of (by simp only [skA, sk, skAs, sks]) rfl (PE.imp (pe_upper ha.lk hbase hline) fun σ H Q q => ?_) (fun _ => rfl)
  obtain ⟨bx, P, env, bs, d, bs', h1, h2, h3⟩ := q
  simp only [ev, evs, bind_def, pure_def, bnd_some, lift_some, ret_some] at h2
  obtain ⟨x, b1, ex, ds, b2, ⟨rfl, rfl⟩, eg, rfl⟩ := h2
  simp only [sk, sks, List.append_nil] at h1
  cases x with
  | str z =>
    simp only [mthD] at eg
    split at eg
    · rename_i hz
      simp only [Option.some.injEq] at eg; subst eg
      refine ⟨bx, P, env, bs, _, _, h1, ex, fun v H1 bx1 e1 r1 => ?_⟩
      obtain ⟨rfl, ok⟩ := r1.str_
      refine ⟨⟨z, rfl⟩, z, rfl, rfl, by omega, h3 _ _ bx1 e1 ?_⟩
      simp only [Rep]
      exact ⟨trivial, hz.2⟩
    · cases eg
  | _ => simp [mthD] at eg
/-! ### how many are told -/
theorem dist_of : ∀ (ns L : List Int), L.Nodup → (∀ k, k ∈ L ↔ k ∈ ns) → L.length = distI ns
  | [], L, _, h => by
    cases L with
    | nil => rfl
    | cons a L => have := (h a).mp (by simp); simp at this
  | n :: ns, L, hd, h => by
    unfold distI
    by_cases m : n ∈ ns
    · rw [if_pos m]
      exact dist_of ns L hd fun k => (h k).trans ⟨fun q => by
        rcases List.mem_cons.mp q with rfl | q
        · exact m
        · exact q, fun q => List.mem_cons_of_mem _ q⟩
    · rw [if_neg m]
      have hm : n ∈ L := (h n).mpr (by simp)
      have := dist_of ns (L.erase n) (hd.erase n) fun k => by
        rw [hd.mem_erase_iff, h k, List.mem_cons]
        constructor
        · rintro ⟨a, b | b⟩
          · exact absurd b a
          · exact b
        · intro b
          exact ⟨fun e => m (e ▸ b), .inr b⟩
      rw [List.length_erase_of_mem hm] at this
      have : 0 < L.length := List.length_pos_of_mem hm
      omega
theorem firstMet_nodup' (val : Nat → Int) : ∀ i, (firstMet val i).Nodup
  | 0 => List.nodup_nil
  | i + 1 => by
    rw [firstMet_succ]
    unfold step_dedup
    split
    · exact firstMet_nodup' val i
    · rename_i h
      rw [List.nodup_append]
      refine ⟨firstMet_nodup' val i, by simp, fun a ha b hb => ?_⟩
      rw [List.mem_singleton.mp hb]
      intro e
      exact h (List.any_eq_true.mpr ⟨a, ha, by simp [e]⟩)
theorem firstMet_dist (ns : List Int) : (firstMet (fun i => ns.getD i 0) ns.length).length = distI ns := by
  refine dist_of ns _ (firstMet_nodup' _ _) fun k => ?_
  have e : (List.range ns.length).map (fun i => ns.getD i 0) = ns := by
    refine List.ext_getElem (by simp) fun i h1 h2 => ?_
    simp only [List.getElem_map, List.getElem_range]
    rw [List.getD_eq_getElem?_getD, List.getElem?_eq_getElem h2]; rfl
  have := firstMet_any (fun i => ns.getD i 0) ns.length k
  rw [e] at this
  constructor
  · intro m
    have : ns.any (· == k) = true := by rw [← this]; exact List.any_eq_true.mpr ⟨k, m, by simp⟩
    obtain ⟨y, hy, ey⟩ := List.any_eq_true.mp this
    rw [← eq_of_beq ey]; exact hy
  · intro m
    have : (firstMet (fun i => ns.getD i 0) ns.length).any (· == k) = true := by rw [this]; exact List.any_eq_true.mpr ⟨k, m, by simp⟩
    obtain ⟨y, hy, ey⟩ := List.any_eq_true.mp this
    rw [← eq_of_beq ey]; exact hy
theorem intsAre_vals' : ∀ {ns : List Int} {us : List Value}, Vals (ns.map V.int) us → IntsAre us ns
  | [], _, .nil => .nil
  | n :: ns, _, .cons r t => by
    obtain ⟨k, rfl⟩ := r
    exact .cons n k (intsAre_vals' t)
def tLenSetG (K : PySem.W.Frag) (ta : TE) : TE := fun σ H Q => ta σ H fun x H1 => ∃ (l : Addr) (ns : List Int), x = V.ref l ∧ (SqL K H1 l (ns.map V.int) ∨ SqT K H1 l (ns.map V.int)) ∧ ns.length ≤ 1000 ∧ Q (.int (distI ns : Nat)) H1
theorem pe_lenSetG {a : Expr} {ta : TE} {p p2 q pos : Pos} (hc : X.calm = true) (hg : Gl X "len") (hm : X.mg "len" = none) (hg2 : Gl X "set") (hm2 : X.mg "set" = none) (ha : PE X a ta)
    (na : starEach [a] X.env = (false, eval a X.env) :: starEach [] X.env) : PE X (.Call (.Name "len" p) [.Call (.Name "set" p2) [a] [] q] [] pos) (tLenSetG X.K ta) := by
  refine ⟨fun pins s σ H Q I h => ?_⟩
  refine Call_ (ld_blt I hg hm boot_len ?_)
  refine PyProof.Rows.callWith_builtin1 (PyProof.Rows.args_cons ?_ rfl) rfl rfl
  refine Call_ (ld_blt I hg2 hm2 boot_set ?_)
  refine PyProof.Rows.callWith_type1 (PyProof.Rows.args_cons (thn (ha.run pins s σ H _ I h) fun v s1 ⟨x, H1, I1, r1, q1⟩ => PyProof.Rows.args_nil ?_) na) na rfl
  obtain ⟨l, ns, rfl, hq, hz, q1⟩ := q1
  cases r1
  rcases hq with hq | hq
  · obtain ⟨its, r, pl, _⟩ := I1.list hq
    have hl : its.toArray.size = ns.length := by rw [List.size_toArray, ← r.length, List.length_map]
    refine call_set_list (I1.ok.hd hc) pl.isList (ns := ns) (by simpa using intsAre_vals' r) (by rw [hl]; unfold scanBound; omega) fun h' tk hS hk => ?_
    refine PyProof.Rows.args_nil ?_
    rw [hl] at hS
    obtain ⟨o, es, ep, t, ho, hex, hd, _, _, _, hf, hn⟩ := hS
    have I2 : L2.Inv X pins σ H1 { s1 with heap := h', toks := tk } := I1.kept fun b o e => hk b o (Heap.lt_size e) e
    have e : es.size = distI ns := by rw [hn]; exact firstMet_dist ns
    have le : es.size ≤ 1000 := by rw [hn]; exact Nat.le_trans (firstMet_length_le _ _) hz
    exact call_len_set ho hex hd hf (by omega) ⟨.int (distI ns : Nat), H1, I2.tok _, ⟨_, by rw [e]⟩, q1⟩
  · obtain ⟨its, r, pl, _⟩ := I1.tuple hq
    refine call_set_tupI ns (I1.ok.hd hc) pl (by simpa using intsAre_vals' r) (by unfold scanBound; omega) fun h' tk c hS hc' hk => ?_
    refine PyProof.Rows.args_nil ?_
    obtain ⟨o, es, ep, t, ho, hex, hd, _, hnd, hmem, _, hf, hn, _, _⟩ := hS
    have I2 : L2.Inv X pins σ H1 { s1 with heap := h', toks := tk } := I1.kept fun b o e => hk b o e
    have e : es.size = distI ns := by
      rw [← dist_of ns _ hnd fun k => by rw [← hmem k]; simp]
      simp
    exact call_len_set ho hex hd hf (by omega) ⟨.int (distI ns : Nat), H1, I2.tok _, ⟨_, by rw [e]⟩, q1⟩
theorem se_lenset {a : CE} {o : Expr} {p p2 q pos : Pos} (hc : X.calm = true) (hg : Gl X "len") (hm : X.mg "len" = none) (hg2 : Gl X "set") (hm2 : X.mg "set" = none) (hn : ns o = true) (ha : SE X cl a o) :
    SE X cl (.mth .lenset a .nil) (.Call (.Name "len" p) [.Call (.Name "set" p2) [o] [] q] [] pos) := by
  refine SE.of (by simp only [skA, sk, skAs, sks]) rfl (PE.imp (pe_lenSetG hc hg hm hg2 hm2 ha.lk (star_ns hn)) fun σ H Q q => ?_) (fun _ => rfl)
  obtain ⟨bx, P, env, bs, d, bs', h1, h2, h3⟩ := q
  simp only [ev, evs, bind_def, pure_def, bnd_some, lift_some, ret_some] at h2
  obtain ⟨x, b1, ex, ds, b2, ⟨rfl, rfl⟩, eg, rfl⟩ := h2
  simp only [sk, sks, List.append_nil] at h1
  have fin : ∀ {xs : List D} {m : List Int}, intsD xs = some m → m.length ≤ 1000 → some (D.int (distI m : Nat)) = some d → (∀ v H1 bx1, RepB (RX X bx1) (Pn (RX X bx1) P H) H1 x v → ∃ a ys, v = .ref a ∧ (SqL X.K H1 a ys ∨ SqT X.K H1 a ys) ∧ Reps (RX X bx1) (Pn (RX X bx1) P H) H1 xs ys) → tLenSetG X.K (tL X (sk a) (ev cl a)) σ H Q := fun {xs m} hi hz hd hs => by
    simp only [Option.some.injEq] at hd; subst hd
    refine ⟨bx, P, env, bs, _, _, h1, ex, fun v H1 bx1 e1 r1 => ?_⟩
    obtain ⟨a, ys, rfl, hq, hr⟩ := hs v H1 bx1 r1
    have e := hr.ints hi
    subst e
    exact ⟨a, m, rfl, hq, hz, h3 _ _ bx1 e1 (by simp only [Rep])⟩
  cases x with
  | lst xs =>
    simp only [mthD] at eg
    split at eg
    · rename_i m hi
      split at eg
      · rename_i hz
        refine fin hi hz eg fun v H1 bx1 r1 => ?_
        obtain ⟨a, ys, rfl, h4, h5⟩ := r1.lst_
        exact ⟨a, ys, rfl, .inl (LstAt.sq (R := RX X bx1) h4), h5⟩
      · cases eg
    · cases eg
  | tup xs =>
    simp only [mthD] at eg
    split at eg
    · rename_i m hi
      split at eg
      · rename_i hz
        refine fin hi hz eg fun v H1 bx1 r1 => ?_
        obtain ⟨a, ys, rfl, h4, h5⟩ := r1.tup_
        exact ⟨a, ys, rfl, .inr h4, h5⟩
      · cases eg
    · cases eg
  | _ => simp [mthD] at eg
/-! ### list(range(n)) -/
theorem se_lrange {a : CE} {o : Expr} {p p2 q pos : Pos} (hc : X.calm = true) (hg : Gl X "list") (hm : X.mg "list" = none) (hg2 : Gl X "range") (hm2 : X.mg "range" = none) (hn : ns o = true) (ha : SE X cl a o) :
    SE X cl (.mth .lrange a .nil) (.Call (.Name "list" p) [.Call (.Name "range" p2) [o] [] q] [] pos) := by
  refine SE.ofN (by simp only [skA, sk, skAs, sks]) (PE.imp (pe_listRg hc hg hm (prg_1 hg2 hm2 ha.lk (star_ns hn)) rfl) fun σ H Q q => ?_) (fun _ => rfl)
  obtain ⟨bx, P, env, bs, d, bs', h1, h2, h3⟩ := q
  simp only [ev, evs, bind_def, pure_def, bnd_some, lift_some, ret_some] at h2
  obtain ⟨x, b1, ex, ds, b2, ⟨rfl, rfl⟩, eg, rfl⟩ := h2
  simp only [sk, sks, List.append_nil] at h1
  cases x with
  | int n =>
    simp only [mthD] at eg
    split at eg
    · rename_i hz
      simp only [Option.some.injEq] at eg; subst eg
      refine ⟨bx, P, env, bs, _, _, h1, ex, fun v H1 bx1 e1 r1 => ⟨n, r1.int_, ⟨by omega, by omega, by omega, by omega, by omega⟩, fun q hq => ?_⟩⟩
      have e : rgV 0 n = ((List.range n.toNat).map fun i : Nat => (i : Int)).map V.int := by
        unfold rgV
        rw [Int.sub_zero, List.map_map]
        congr 1
        funext i
        simp
      rw [e]
      have e2 : ((List.range n.toNat).map fun i : Nat => D.int (i : Int)) = ((List.range n.toNat).map fun i : Nat => (i : Int)).map D.int := by rw [List.map_map]; rfl
      rw [e2] at h3
      exact ans_lst (bx := bx1) e1.box hq (fun a p => p.2) (fun v H3 e3 r3 => h3 v H3 bx1 (e1.trans e3) (r3.back e1 e3)) (Reps.ofInts _)
    · cases eg
  | _ => simp [mthD] at eg
end
end En

/-! The engine, part n3: list.index. -/
namespace En
open PySem PySem.Spec PyProof.Rows L2
open AutoSeq1 (wpAny_loadPart') in
theorem list_indexAt3 (l : Addr) (items : Array Value) (n : Nat) (dd : Option Addr) (sl : Array (Option Value)) (x : Value) (e : Value → Bool) (b : Nat) (tb : Tok) (j : Nat) (hj : j < items.size) (hsmall : (j : Int) < 2 ^ 63 - 1) (hbj : b ≤ j)
    (hit : e items[j] = true) (hno : ∀ m (hm : m < items.size), b ≤ m → m < j → e items[m] = false) :
    Meets (Builtin.«list.index» ⟨[.ref l, x, .int (b : Int) tb], []⟩)
      (fun A R s => s.heap.get? l = some { cls := .type "list", dict := dd, data := .seq items n, slots := sl } ∧ (∀ y, y ∈ items → SeqAt.EqAt A.in1 s y x (e y)) ∧ R (.ok (.ret (.int j s.toks))) { s with toks := s.toks + 1 }) := by
  intro prog w A R s h
  obtain ⟨hp, g, d, tk, os⟩ := s; obtain ⟨hl, he, h⟩ := h
  wp_walk using wpAny_loadPart' hl
  have a1 : ((fun i : Int => if i < 0 then max 0 (i + (items.size : Int)) else i) ((some (b : Int)).getD 0)) = ((b : Nat) : Int) := by
    show (if (b : Int) < 0 then _ else _) = _
    rw [if_neg (by omega)]
    rfl
  have a2 : ((fun i : Int => if i < 0 then max 0 (i + (items.size : Int)) else i) ((none : Option Int).getD (2 ^ 63 - 1))) = 2 ^ 63 - 1 := by simp
  rw [a1, a2]
  exact ⟨plainId_quiet MeetsSeq.plain_index_loop _, codeAny_builtin MeetsSeq.entry_index_loop (by
    rw [Around.under_plainId MeetsSeq.plain_index_loop _]
    exact SeqAt.index_loopAt l items n dd sl x e (2 ^ 63 - 1) j hj hsmall hit _ b rfl hbj hno prog w A R _ ⟨hl, he, h⟩)⟩
section
variable {X : Cx} {cl : Calls}
def rIndex2 (K : PySem.W.Frag) : V → List V → Hp → VK → Prop := fun x xs H Q => ∃ (a : Addr) (ys : List V) (y : V) (b j : Nat) (z : V), x = V.ref a ∧ xs = [y, .int (b : Int)] ∧ SqL K H a ys ∧ flatV y = true ∧ ys.all flatV = true ∧ b ≤ j ∧ ys[j]? = some z ∧ eqV z y = true ∧
  (∀ (m : Nat) (z' : V), b ≤ m → m < j → ys[m]? = some z' → eqV z' y = false) ∧ Q (.int (j : Nat)) H
theorem mt_index2 : MtR X "list.index" (rIndex2 X.K) := by
  intro pins s σ H x xs v us Q I rx rxs h
  obtain ⟨a, ys, y, b, j, z, rfl, rfl, hs, fy, fys, hbj, hz, hzj, hno, q⟩ := h
  cases rx
  cases rxs with
  | cons ry rt =>
    rename_i uy ut1
    cases rt with
    | cons rb rt =>
    rename_i ub ut2
    cases rt
    obtain ⟨tb, rfl⟩ := rb
    obtain ⟨its, rv, ⟨⟨cls, dd, data, sl⟩, n, ho, hc, hdn, hd⟩, hlen⟩ := I.list hs
    simp only at hc hd
    subst hc hd
    obtain ⟨u, hu, ru⟩ := rv.get hz
    obtain ⟨hjl, hje⟩ := List.getElem?_eq_some_iff.mp hu
    have hvl := rv.length
    have hj : j < its.toArray.size := by simpa using hjl
    have hsl := sizeLine_eq
    refine call_meets PySem.F.slot_list_index ⟨_, ho, rfl⟩ PySem.F.entry_list_index (PySem.F.args_list_index_3 _ _ _)
      (list_indexAt3 a its.toArray n dd sl uy (eqU y) b tb j hj (by omega) hbj ?_ ?_) ⟨ho, fun u' hu' => mem_eqAt ry fy rv fys u' (by simpa using hu'), ?_⟩
    · have e1 : its.toArray[j] = u := by simpa using hje
      rw [e1, eqU_of ru (flat_at fys hz)]
      exact hzj
    · intro m hm hbm hmj
      have hml : m < its.length := by simpa using hm
      have hmy : m < ys.length := by omega
      have hy' : ys[m]? = some ys[m] := List.getElem?_eq_getElem hmy
      obtain ⟨u2, hu2, ru2⟩ := rv.get hy'
      obtain ⟨_, hme⟩ := List.getElem?_eq_some_iff.mp hu2
      have e1 : its.toArray[m] = u2 := by simpa using hme
      rw [e1, eqU_of ru2 (flat_at fys hy')]
      exact hno m _ hbm hmj hy'
    · exact ⟨.int (j : Nat), H, I.tok _, ⟨_, rfl⟩, q⟩
theorem flat_ints (ns : List Int) : (ns.map V.int).all flatV = true := by
  rw [List.all_map]
  exact List.all_eq_true.mpr fun _ _ => rfl
theorem idx_first {ns : List Int} {k : Int} {b : Nat} (h : k ∈ ns.drop b) : (ns.map V.int)[b + (ns.drop b).idxOf k]? = some (.int k) ∧ ∀ (m : Nat) (z : V), b ≤ m → m < b + (ns.drop b).idxOf k → (ns.map V.int)[m]? = some z → eqV z (.int k) = false := by
  have hlt : (ns.drop b).idxOf k < (ns.drop b).length := List.idxOf_lt_length_of_mem h
  refine ⟨?_, fun m z hb hm hz => ?_⟩
  · rw [List.getElem?_map]
    have : (ns.drop b)[(ns.drop b).idxOf k]? = some k := by rw [List.getElem?_eq_getElem hlt]; simp
    rw [List.getElem?_drop] at this
    rw [this]; rfl
  · rw [List.getElem?_map, Option.map_eq_some_iff] at hz
    obtain ⟨y, hy, rfl⟩ := hz
    have h2 : (ns.drop b)[m - b]? = some y := by rw [List.getElem?_drop, show b + (m - b) = m by omega]; exact hy
    show (y == k) = false
    rw [beq_eq_false_iff_ne]
    intro e
    subst e
    have h3 : m - b < (ns.drop b).length := (List.getElem?_eq_some_iff.mp h2).1
    have h4 : (ns.drop b)[m - b] = y := (List.getElem?_eq_some_iff.mp h2).2
    have h5 := List.not_of_lt_findIdx (p := fun x => x == y) (xs := ns.drop b) (i := m - b) (by show m - b < List.idxOf y (ns.drop b); omega)
    simp [h4] at h5
theorem se_index {a c : CE} {x : Str} {e : Expr} {px ap pos : Pos} (ho : PE X (.Name x px) (tL X (sk a) (ev cl a))) (hs : skA (.mth .index a (.cons c .nil)) = sk (.mth .index a (.cons c .nil))) (hc : SE X cl c e) (hn : ns e = true) (hline : (ap.endLine == pos.line) = true)
    (hbase : attributeBase (.Name x px) "index" X.env (eval (.Name x px) X.env) = eval (.Name x px) X.env) :
    SE X cl (.mth .index a (.cons c .nil)) (.Call (.Attribute (.Name x px) "index" ap) [e] [] pos) := by
  have hA := pa_cons hc.lk pa_nil (star_ns hn)
  refine SE.of hs rfl (PE.imp (pe_bm F.plainAttrs_list F.slot_list_index F.type_list_index mt_index ho hA hbase (by rw [star_ns hn]; rfl) hline (star_ns hn) rfl) fun σ H Q q => ?_) (fun _ => rfl)
  obtain ⟨bx, P, env, bs, d, bs', h1, h2, h3⟩ := q
  simp only [ev, evs, bind_def, pure_def, bnd_some, lift_some, ret_some] at h2
  obtain ⟨x, b1, ex, ds, b2, ⟨y, b3, ey, r, b4, ⟨rfl, rfl⟩, rfl, rfl⟩, eg, rfl⟩ := h2
  simp only [sk, sks, List.append_nil] at h1
  cases y with
  | int k =>
    cases x with
    | lst xs =>
      simp only [mthD] at eg
      split at eg
      · rename_i m hi
        split at eg
        · rename_i hk
          simp only [Option.some.injEq] at eg; subst eg
          refine ⟨bx, P, env, bs, _, _, h1.weak fun i m => List.mem_append_left _ m, ex, fun v H1 bx1 e1 r1 => ?_⟩
          obtain ⟨a1, ys, rfl, hq, hr⟩ := r1.lst_
          refine ⟨.inl ⟨rfl, ys, LstAt.sq (R := RX X bx1) hq⟩, bx1, _, env, _, _, _, (h1.weak fun i m => List.mem_append_right _ m).on e1, ey, fun v2 H2 bx2 e2 r2 => ?_⟩
          have rb := (r1.on e2 (fun a p => p.2) e1.box).back e1 e2
          obtain ⟨a2, ys2, ea, hq2, hr2⟩ := rb.lst_
          cases ea
          have e := hr2.ints hi
          subst e
          obtain ⟨f1, f2⟩ := idx_first (ns := m) (k := k) (b := 0) (by simpa using hk)
          simp only [List.drop_zero, Nat.zero_add] at f1 f2
          exact ⟨a1, m.map V.int, .int k, m.idxOf k, .int k, rfl, by rw [r2.int_], LstAt.sq (R := RX X bx2) hq2, rfl, flat_ints m, f1, by show (k == k) = true; simp, fun j z hj hz => f2 j z (Nat.zero_le _) hj hz, h3 _ _ bx2 (e1.trans e2) (by simp only [Rep])⟩
        · cases eg
      · cases eg
    | _ => simp [mthD] at eg
  | _ => simp [mthD] at eg
theorem se_index2 {a c c2 : CE} {x : Str} {e e2 : Expr} {px ap pos : Pos} (ho : PE X (.Name x px) (tL X (sk a) (ev cl a))) (hs : skA (.mth .index2 a (.cons c (.cons c2 .nil))) = sk (.mth .index2 a (.cons c (.cons c2 .nil)))) (hc : SE X cl c e) (hn : ns e = true) (hc2 : SE X cl c2 e2) (hn2 : ns e2 = true) (hline : (ap.endLine == pos.line) = true)
    (hbase : attributeBase (.Name x px) "index" X.env (eval (.Name x px) X.env) = eval (.Name x px) X.env) :
    SE X cl (.mth .index2 a (.cons c (.cons c2 .nil))) (.Call (.Attribute (.Name x px) "index" ap) [e, e2] [] pos) := by
  have hA := pa_cons hc.lk (pa_cons hc2.lk pa_nil (star_ns hn2)) (star_ns hn)
  refine SE.of hs rfl (PE.imp (pe_bm F.plainAttrs_list F.slot_list_index F.type_list_index mt_index2 ho hA hbase (by rw [star_ns hn, star_ns hn2]; rfl) hline (star_ns hn) (by rw [star_ns hn2]; rfl)) fun σ H Q q => ?_) (fun _ => rfl)
  obtain ⟨bx, P, env, bs, d, bs', h1, h2, h3⟩ := q
  simp only [ev, evs, bind_def, pure_def, bnd_some, lift_some, ret_some] at h2
  obtain ⟨x, b1, ex, ds, b2, ⟨y, b3, ey, r, b4, ⟨y2, b5, ey2, r2, b6, ⟨rfl, rfl⟩, rfl, rfl⟩, rfl, rfl⟩, eg, rfl⟩ := h2
  simp only [sk, sks, List.append_nil] at h1
  cases y with
  | int k =>
    cases y2 with
    | int b =>
      cases x with
      | lst xs =>
        simp only [mthD] at eg
        split at eg
        · rename_i m hi
          split at eg
          · rename_i hk
            obtain ⟨hb, hk⟩ := hk
            obtain ⟨b, rfl⟩ := Int.eq_ofNat_of_zero_le hb
            simp only [Option.some.injEq] at eg; subst eg
            refine ⟨bx, P, env, bs, _, _, h1.weak fun i m => List.mem_append_left _ m, ex, fun v H1 bx1 e1 r1 => ?_⟩
            obtain ⟨a1, ys, rfl, hq, hr⟩ := r1.lst_
            refine ⟨.inl ⟨rfl, ys, LstAt.sq (R := RX X bx1) hq⟩, bx1, _, env, _, _, _, (h1.weak fun i m => List.mem_append_right _ (List.mem_append_left _ m)).on e1, ey, fun v2 H2 bx2 e2 r2 => ?_⟩
            refine ⟨bx2, _, env, _, _, _, (h1.weak fun i m => List.mem_append_right _ (List.mem_append_right _ m)).on (e1.trans e2), ey2, fun v3 H3 bx3 e3 r3 => ?_⟩
            have e23 := e2.trans e3
            have rb := (r1.on e23 (fun a p => p.2) e1.box).back e1 e23
            obtain ⟨a2, ys2, ea, hq2, hr2⟩ := rb.lst_
            cases ea
            have e := hr2.ints hi
            subst e
            simp only [Int.toNat_natCast] at hk h3
            obtain ⟨f1, f2⟩ := idx_first (ns := m) (k := k) (b := b) hk
            exact ⟨a1, m.map V.int, .int k, b, b + (m.drop b).idxOf k, .int k, rfl, by rw [r2.int_, r3.int_], LstAt.sq (R := RX X bx3) hq2, rfl, flat_ints m, Nat.le_add_right _ _, f1, by show (k == k) = true; simp, fun j z hb hj hz => f2 j z hb hj hz, h3 _ _ bx3 (e1.trans e23) (by simp only [Rep])⟩
          · cases eg
        · cases eg
      | _ => simp [mthD] at eg
    | _ => simp [mthD] at eg
  | _ =>
    cases y2 <;> simp [mthD] at eg
end
end En

/-! The engine, part n4: texts replaced, the tail backwards. -/
namespace En
open PySem PySem.Spec PyProof.Rows L2
section
variable {X : Cx} {cl : Calls}
/-- a test behind which a token is out -/
def PT1 (X : Cx) (e : Expr) (t : TT) : Prop :=
  ∀ (pins : List (Addr × Obj)) (s : Shared) (σ : L2.St) (H : Hp) (Q : Bool → Hp → Prop), Inv X pins σ H s → t σ H Q → wpAny (model X.prog X.w) X.A (isTrue e X.env (eval e X.env)) (fun b s1 => 1 ≤ s1.toks ∧ TP X pins σ Q b s1) X.xe s
theorem pe_ifExpT {c a b : Expr} {pos : Pos} {tA : TT} {ta tb : TE} (hc : PT1 X c tA) (ha : PET X a ta) (hb : PET X b tb) : PE X (.IfExp c a b pos) (L2.tIf tA ta tb) := by
  refine ⟨fun pins s σ H Q I h => ?_⟩
  refine wpAny_IfExp (thn (hc pins s σ H _ I h) fun d s1 q => ?_)
  obtain ⟨hk, H1, I1, q1⟩ := q
  cases d with
  | true => exact ha pins s1 σ H1 Q hk I1 q1
  | false => exact hb pins s1 σ H1 Q hk I1 q1
theorem pt1_cmp {op : CmpOp} {r : R2} {w : Str} {j : Nat} {cp pos : Pos} {b : Expr} {tb : TE} (ho : OpR X (compareOp op) r) (hb : PE X b tb) (hm : behindInMarks op b = false) : PT1 X (.Compare (.Constant (.str w) j cp) [op] [b] pos) (tTest (tOp r (tC (.str w)) tb)) := by
  intro pins s σ H Q I h
  refine wpAny_isTrue_Compare1 (Calls.Constant_str ?_) hm
  refine wpAny_mono (PySem.wpAny_toks_of (n := 1) (by show 1 ≤ s.toks + 1; omega) (hb.run pins _ σ H _ (I.tok (s.toks + 1)) h)) (fun u s2 q => ?_) fun _ _ z => z.2
  obtain ⟨hk, y, H2, I2, r2, q2⟩ := q
  refine wpAny_mono (PySem.wpAny_toks_of hk (ho pins s2 σ H2 (V.str w) y (Value.str w s.toks) u _ I2 ⟨s.toks, rfl⟩ r2 q2)) (fun c s3 q => ?_) fun _ _ z => z.2
  obtain ⟨hk3, z, H3, I3, r3, k, e, q3⟩ := q
  subst e
  cases r3
  exact wpAny_truthy_bool ⟨hk3, H3, I3, q3⟩
theorem tL_str {w : Str} {σ : L2.St} {H : Hp} {Q : VK} (hx : PyData.strOk w = true) (h : tL X (sk (.cst (.str w))) (ev cl (.cst (.str w))) σ H Q) : tC (.str w) σ H Q := by
  obtain ⟨bx, P, env, bs, d, bs', h1, h2, h3⟩ := h
  simp only [ev] at h2
  cases h2
  exact h3 _ _ bx (.refl h1.box) (by simp only [RepB, Rep]; exact ⟨trivial, hx⟩)
theorem pet_repl {y z : Str} {a : CE} {o : Expr} {j k : Nat} {c0 c1 apos pos : Pos} (ha : SE X cl a o) (hyz : (y == z) = false)
    (hst : starEach [.Constant (.str y) j c0, .Constant (.str z) k c1] X.env = [(false, eval (.Constant (.str y) j c0) X.env), (false, eval (.Constant (.str z) k c1) X.env)])
    (hbase : attributeBase o "replace" X.env (eval o X.env) = eval o X.env) (hline : (apos.endLine == pos.line) = true) :
    PET X (.Call (.Attribute o "replace" apos) [.Constant (.str y) j c0, .Constant (.str z) k c1] [] pos) (tF X (sk (.mth (.repl y z) a .nil)) (ev cl (.mth (.repl y z) a .nil))) := by
  intro pins s σ H Q h0 I q
  refine CwR.pet_replC ha.lk hyz hst hbase hline pins s σ H Q h0 I ?_
  obtain ⟨bx, P, env, bs, d, bs', h1, h2, h3⟩ := q
  simp only [ev, evs, bind_def, pure_def, bnd_some, lift_some, ret_some] at h2
  obtain ⟨x, b1, ex, ds, b2, ⟨rfl, rfl⟩, eg, rfl⟩ := h2
  simp only [sk, sks, List.append_nil] at h1
  cases x with
  | str t =>
    simp only [mthD] at eg
    split at eg
    · rename_i hz
      simp only [Option.some.injEq] at eg; subst eg
      refine ⟨bx, P, env, bs, _, _, h1, ex, fun v H1 bx1 e1 r1 => ?_⟩
      obtain ⟨rfl, ok⟩ := r1.str_
      refine ⟨t, rfl, ?_, h3 _ _ bx1 e1 ?_⟩
      · have h4 : (t.length + 1) * z.length ≤ (t.length + 1) * 14 := Nat.mul_le_mul_left _ hz.2.1
        omega
      · simp only [Rep]
        exact ⟨trivial, hz.2.2⟩
    · cases eg
  | _ => simp [mthD] at eg
/-- a value as a test, one token out -/
def PTT (X : Cx) (e : Expr) (t : TT) : Prop :=
  ∀ (pins : List (Addr × Obj)) (s : Shared) (σ : L2.St) (H : Hp) (Q : Bool → Hp → Prop), 1 ≤ s.toks → Inv X pins σ H s → t σ H Q → wpAny (model X.prog X.w) X.A (isTrue e X.env (eval e X.env)) (TP X pins σ Q) X.xe s
theorem tsT_of {e : Expr} {S : List Nat} {f : Env → M D} (h : PET X e (tF X S f)) (he : ∀ whole, isTrue e X.env whole = (do let v ← whole; standAt e.pos; holding [v] (truthy v))) : PTT X e (tTr X S fun env => M.tru (f env)) := by
  intro pins s σ H Q h0 I q
  obtain ⟨bx, P, env, bs, k, bs', h1, h2, h3⟩ := q
  obtain ⟨d, h2, ht⟩ := tru_some.mp h2
  refine isTrue_plain (thn (h pins s σ H (fun v H1 => TruV X.K v H1 k ∧ Q k H1) h0 I ⟨bx, P, env, bs, d, bs', h1, h2, fun v H1 bx1 e1 r1 => ⟨(r1.b fun a p => p.2).tru ht, h3 H1 bx1 e1⟩⟩) fun v s1 ⟨x, H1, I1, r1, q1⟩ => ?_) (he _)
  exact tru_ok pins s1 σ H1 x v Q I1 r1 ⟨k, q1.1, q1.2⟩
theorem se_swap {op : CmpOp} {w : Str} {c1 a b : CE} {e1 ea eb : Expr} {j : Nat} {cp p0 pos : Pos} (hx : PyData.strOk w = true) (ho : Op2 X (compareOp op) (fun x y => (cmpD op x y).map D.bl)) (hm : behindInMarks op e1 = false) (hc : SE X cl c1 e1)
    (ha : PET X ea (tF X (sk a) (ev cl a))) (hb : PET X eb (tF X (sk b) (ev cl b))) (sa : skA a = sk a) (sb : skA b = sk b) (fa : fr0 a = false)
    (ta : ∀ whole, isTrue ea X.env whole = (do let v ← whole; standAt ea.pos; holding [v] (truthy v))) (tb : ∀ whole, isTrue eb X.env whole = (do let v ← whole; standAt eb.pos; holding [v] (truthy v))) :
    SE X cl (.ife (.cmp op (.cst (.str w)) c1) a b) (.IfExp (.Compare (.Constant (.str w) j cp) [op] [e1] p0) ea eb pos) := by
  have hct : PT1 X (.Compare (.Constant (.str w) j cp) [op] [e1] p0) (tTr X (sk (.cmp op (.cst (.str w)) c1)) fun env => M.tru (ev cl (.cmp op (.cst (.str w)) c1) env)) := by
    intro pins s σ H Q I q
    refine pt1_cmp ho hc.lk hm pins s σ H Q I ?_
    have hse : SE X cl (.cmp op (.cst (.str w)) c1) (.Compare (.Constant (.str w) j cp) [op] [e1] p0) := se_cmp ho hm (se_str hx) hc
    obtain ⟨bx, P, env, bs, k, bs', h1, h2, h3⟩ := q
    obtain ⟨x, b1, h4, h50⟩ := bnd_some.mp h2
    obtain ⟨h5, rfl⟩ := lift_some.mp h50
    simp only [ev, bind_def, pure_def, bnd_some, lift_some, ret_some] at h4
    obtain ⟨x0, b2, ex, y, b3, ey, c, b4, ⟨eg, rfl⟩, rfl, rfl⟩ := h4
    unfold tTest L2.tOp
    refine tL_str (X := X) (cl := cl) hx ?_
    refine lk2 (cl := cl) (a := .cst (.str w)) (b := c1) h1 (fun i m => by simp only [sk, List.mem_append]; exact .inl m) (fun i m => by simp only [sk, List.mem_append]; exact .inr m) (show ev cl (.cst (.str w)) env bs = some (x0, b2) by rw [ex.1, ex.2]; simp only [ev]; rfl) ey fun v1 v2 H2 bx2 e2 r1 r2 => ?_
    refine ⟨bx2, _, _, x0, y, .bl c, e2.box, fun a p => p.2, r1, r2, by show Option.map D.bl (cmpD op x0 y) = _; rw [eg]; rfl, fun v H3 e3 r3 => ?_⟩
    have r3 := r3.2 rfl
    simp only [Rep] at r3
    simp [truD] at h5
    subst r3 h5
    exact ⟨c, rfl, h3 H3 bx2 (e2.trans e3)⟩
  have l : PE X (.IfExp (.Compare (.Constant (.str w) j cp) [op] [e1] p0) ea eb pos) (tF X (sk (.ife (.cmp op (.cst (.str w)) c1) a b)) (ev cl (.ife (.cmp op (.cst (.str w)) c1) a b))) := PE.imp (pe_ifExpT hct ha hb) fun σ H Q q => by
    obtain ⟨bx, P, env, bs, d, bs', h1, h2, h3⟩ := q
    rw [ev] at h2
    simp only [bind_def, bnd_some] at h2
    obtain ⟨k, b1, ek, h2⟩ := h2
    rw [sk] at h1
    rw [← sa, ← sb]
    refine ⟨bx, P, env, bs, k, b1, h1.weak fun i m => List.mem_append_left _ m, ek, fun H1 bx1 ep => ?_⟩
    cases k with
    | true =>
      rw [if_pos rfl] at h2 ⊢
      exact ⟨bx1, _, env, _, d, bs', (h1.weak fun i m => List.mem_append_right _ (List.mem_append_left _ m)).on ep, h2, fun v2 H2 bx2 e2 r2 => h3 v2 H2 bx2 (ep.trans e2) (r2.back ep e2)⟩
    | false =>
      rw [if_neg Bool.false_ne_true] at h2 ⊢
      exact ⟨bx1, _, env, _, d, bs', (h1.weak fun i m => List.mem_append_right _ (List.mem_append_right _ m)).on ep, h2, fun v2 H2 bx2 e2 r2 => h3 v2 H2 bx2 (ep.trans e2) (r2.back ep e2)⟩
  refine ⟨by rw [show skA (.ife (.cmp op (.cst (.str w)) c1) a b) = sk (.ife (.cmp op (.cst (.str w)) c1) a b) by simp only [skA, sk]]; exact l, PE.imp l fun _ _ _ => tL_F, ⟨fun pins s σ H Q I q => ?_⟩, fun z => ?_⟩
  rotate_left
  · have z' : fr0 a = true ∧ fr0 b = true := by simpa only [fr, Bool.and_eq_true] using z
    rw [fa] at z'
    exact absurd z'.1 (by decide)
  obtain ⟨bx, P, env, bs, k0, bs', h1, h20, h3⟩ := q
  obtain ⟨d, h2, ht⟩ := tru_some.mp h20
  rw [ev] at h2
  simp only [bind_def, bnd_some] at h2
  obtain ⟨k, b1, ek, h2⟩ := h2
  rw [sk] at h1
  refine isTrue_IfExp (thn (hct pins s σ H (fun c H1 => c = k ∧ ∃ bx1, EPost (RX X bx) (RX X bx1) H H1 b1) I ⟨bx, P, env, bs, k, b1, h1.weak fun i m => List.mem_append_left _ m, ek, fun H1 bx1 ep => ⟨rfl, bx1, ep⟩⟩) fun c s1 hq => ?_)
  obtain ⟨hk, H1, I1, rfl, bx1, ep⟩ := hq
  cases c with
  | true =>
    rw [if_pos rfl] at h2 ⊢
    exact tsT_of ha ta pins s1 σ H1 Q hk I1 ⟨bx1, _, env, _, k0, bs', (h1.weak fun i m => List.mem_append_right _ (List.mem_append_left _ (sa ▸ m))).on ep, tru_some.mpr ⟨d, h2, ht⟩, fun H2 bx2 e2 => h3 H2 bx2 (ep.trans e2)⟩
  | false =>
    rw [if_neg Bool.false_ne_true] at h2 ⊢
    exact tsT_of hb tb pins s1 σ H1 Q hk I1 ⟨bx1, _, env, _, k0, bs', (h1.weak fun i m => List.mem_append_right _ (List.mem_append_right _ (sb ▸ m))).on ep, tru_some.mpr ⟨d, h2, ht⟩, fun H2 bx2 e2 => h3 H2 bx2 (ep.trans e2)⟩
end
/-! ### t[:0:-1] of a tuple -/
section
variable {prog : Program} {w : World} {A : Around} {E : Value → Shared → Prop} {s : Shared}
theorem adjust_rev0 (n : Nat) : Builtin.Slice.sliceAdjust none (some 0) (-1) ((n + 1 : Nat) : Int) = ((n : Int), 0) := by
  unfold Builtin.Slice.sliceAdjust
  have h1 : ((-1 : Int) < 0) := by omega
  have h2 : ¬ ((0 : Int) < 0) := by omega
  simp only [h1, h2, if_true, if_false, Prod.mk.injEq]
  omega
theorem places_rev0 (n : Nat) : Builtin.Slice.slicePlaces (n : Int) 0 (-1) = n := by
  unfold Builtin.Slice.slicePlaces
  have h1 : ¬ (-1 : Int) > 0 := by omega
  simp only [h1, if_false]
  split
  · have : (n : Int) - 0 - 1 = n - 1 := by omega
    rw [this, show (- -1 : Int) = 1 by decide, Int.ediv_one]
    omega
  · omega
theorem sliceApplied_rev0 {sl : Addr} {vl vu vs : Value} {n : Nat} {Q : Int × Int × Nat → Shared → Prop} (hs : s.heap.IsSliceOf sl vl vu vs) (pl : IsPart vl none) (pu : IsPart vu (some 0)) (ps : IsPart vs (some (-1)))
    (h : Q ((n : Int), -1, n) s) : wpAny (model prog w) A (Builtin.Slice.sliceApplied (.ref sl) (pure ((n + 1 : Nat) : Int))) Q E s := by
  obtain ⟨os, hos, hcs, hds⟩ := id hs
  unfold Builtin.Slice.sliceApplied Builtin.Slice.sliceFields
  refine wpAny_bind (wpAny_bind (wpAny_field hos hds (x := vl) rfl (wpAny_bind (wpAny_field hos hds (x := vu) rfl (wpAny_bind (wpAny_field hos hds (x := vs) rfl (wpAny_pure ?_)))))))
  refine wpAny_bind (HT.slicePart_ ps ?_)
  show wpAny _ _ (if ((-1 : Int) == 0) = true then _ else _) _ _ s
  rw [if_neg (by decide)]
  refine wpAny_bind (HT.slicePart_ pl (wpAny_bind (HT.slicePart_ pu (wpAny_bind (wpAny_pure ?_)))))
  show wpAny _ _ (match Builtin.Slice.sliceAdjust none (some 0) (-1) ((n + 1 : Nat) : Int) with | (lo, hi) => pure (lo, (-1 : Int), Builtin.Slice.slicePlaces lo hi (-1))) _ _ s
  rw [adjust_rev0 n]
  show wpAny _ _ (pure ((n : Int), (-1 : Int), Builtin.Slice.slicePlaces (n : Int) 0 (-1))) _ _ s
  rw [places_rev0]
  exact wpAny_pure h
theorem range_rev1 (n : Nat) : (List.range n).map (fun m => n - m) = ((List.range n).map (· + 1)).reverse := by
  apply List.ext_getElem
  · simp
  · intro i h1 h2
    simp only [List.getElem_map, List.getElem_reverse, List.getElem_range, List.length_map, List.length_range]
    simp at h1
    omega
theorem drop1_all {α : Type} (x : α) (xs : List α) : ((List.range xs.length).map (· + 1)).filterMap (fun j => (x :: xs)[j]?) = xs := by
  rw [List.filterMap_map]
  have : ((fun j => (x :: xs)[j]?) ∘ fun k => k + 1) = fun k => xs[k]? := by funext k; simp
  rw [this]
  have := PySem.W.krv_all xs.toArray
  simpa using this
theorem pick_rev0 (x : Value) (xs : List Value) : ((List.range xs.length).filterMap fun (m : Nat) => (x :: xs).toArray[((xs.length : Int) + (m : Int) * -1).toNat]?).toArray = xs.reverse.toArray := by
  simp only [List.getElem?_toArray]
  have e : ((List.range xs.length).filterMap fun (m : Nat) => (x :: xs)[((xs.length : Int) + (m : Int) * -1).toNat]?) = (((List.range xs.length).map fun k => xs.length - k).filterMap fun j => (x :: xs)[j]?) := by
    rw [List.filterMap_map]
    have : ∀ l : List Nat, (∀ m ∈ l, m < xs.length) → l.filterMap (fun (m : Nat) => (x :: xs)[((xs.length : Int) + (m : Int) * -1).toNat]?) = l.filterMap ((fun j => (x :: xs)[j]?) ∘ fun k => xs.length - k) := by
      intro l
      induction l with
      | nil => intro _; rfl
      | cons m l ih =>
        intro hl
        have hm := hl m (List.mem_cons_self ..)
        have e1 : ((xs.length : Int) + (m : Int) * -1).toNat = xs.length - m := by omega
        simp only [List.filterMap_cons, Function.comp, e1, ih fun m' h' => hl m' (List.mem_cons_of_mem _ h')]
    exact this _ fun m h => List.mem_range.mp h
  rw [e, range_rev1, List.filterMap_reverse, drop1_all]
theorem getItem_tuple_rev0 {t sl : Addr} {x : Value} {xs : List Value} {vl vu vs : Value} {Q : Value → Shared → Prop} (ht : IsTup s.heap t (x :: xs).toArray) (hs : s.heap.IsSliceOf sl vl vu vs) (pl : IsPart vl none) (pu : IsPart vu (some 0)) (ps : IsPart vs (some (-1)))
    (h : Q (.ref s.heap.objs.size) { s with heap := s.heap.push { cls := .type "tuple", data := .seq xs.reverse.toArray } })
    (hsz : xs.length + 1 ≤ sizeLine) : wpAny (model prog w) A (getItem (.ref t) (.ref sl)) Q E s := by
  have htake : sizeOk (.seq xs.reverse.toArray) := by
    show xs.reverse.toArray.size ≤ sizeLine
    rw [List.size_toArray, List.length_reverse]
    omega
  obtain ⟨os, hos, hcs, hds⟩ := id hs
  have hTs : s.TypeIs (.ref sl) "slice" := ⟨os, hos, hcs⟩
  unfold getItem
  try with_reducible refine wpAny_holding ?_
  first | refine wpAny_bind (wpAny_pure ?_) | skip
  refine wpAny_bind (wpAny_sequenceKey ht.typeIs (by decide) ?_)
  refine wpAny_bind (wpAny_callSpecial?_slot (name := Str.ofString "__getitem__") ht.typeIs PyProof.Rows.slot_tuple_getitem
    (wpAny_call_entry PyProof.Rows.slot_tuple_getitem ht.typeIs entry_tuple_getitem ?_ (args_tuple_getitem _ _)))
  show wpAny _ _ (Builtin.Tuple.tupleItemsOf (.ref t) >>= _) _ _ s
  refine wpAny_bind (tupleItemsOf_ ht ?_)
  refine wpAny_bind (wpAny_typeOf hTs ?_)
  rw [if_pos (by decide)]
  have hsz2 : ((x :: xs).toArray.size : Int) = ((xs.length + 1 : Nat) : Int) := by simp
  rw [hsz2]
  refine wpAny_bind (sliceApplied_rev0 hs pl pu ps ?_)
  have hno : ¬ (((xs.length : Int) == 0 && (-1 : Int) == 1 && xs.length == (x :: xs).toArray.size) = true) := by
    intro q
    rw [Bool.and_eq_true, Bool.and_eq_true] at q
    exact absurd (eq_of_beq q.1.2) (by decide)
  show wpAny _ _ (if ((xs.length : Int) == 0 && (-1 : Int) == 1 && xs.length == (x :: xs).toArray.size) = true then _ else _) _ _ s
  rw [if_neg hno, pick_rev0]
  first
    | exact wpAny_bind (m := Builtin.Tuple.tupleExact _) (wpAny_newObj_type (wpAny_pure ⟨_, rfl, wpAny_pure h⟩) htake)
    | exact wpAny_bind (m := Builtin.Tuple.tupleExact _) (wpAny_newObj_type (wpAny_bind (wpAny_pure (wpAny_pure ⟨_, rfl, wpAny_pure h⟩))) htake)
    | exact wpAny_bind (wpAny_bind (m := Builtin.Tuple.tupleExact _) (wpAny_newObj_type (wpAny_pure (wpAny_pure ⟨_, rfl, wpAny_pure h⟩)) htake))
    | exact wpAny_bind (wpAny_bind (m := Builtin.Tuple.tupleExact _) (wpAny_newObj_type (wpAny_pure ⟨_, rfl, wpAny_pure h⟩) htake))
end
def tRev0 (K : PySem.W.Frag) (te : TE) : TE := fun σ H Q => te σ H fun x H1 => ∃ a y ys, x = .ref a ∧ SqT K H1 a (y :: ys) ∧ ∀ p, H1 p = none → Q (.ref p) (upd H1 p (.tup ys.reverse))
theorem pe_rev0 {X : Cx} {e : Expr} {te : TE} {k k0 : Nat} {p0 p1 p2 p3 pos : Pos} (he : PE X e te) : PE X (.Subscript e (.Slice none (some (.Constant (.int 0) k0 p0)) (some (.UnaryOp .USub (.Constant (.int 1) k p1) p2)) p3) pos) (tRev0 X.K te) := by
  refine ⟨fun pins s σ H Q I h => ?_⟩
  refine Subscript_ (thn (he.run pins s σ H _ I h) fun v s1 ⟨x, H1, I1, r1, q1⟩ => ?_)
  obtain ⟨a, y, ys, ex, hx, q⟩ := q1
  subst ex
  cases r1
  have hst : PO X (some (.UnaryOp .USub (.Constant (.int 1) k p1) p2)) (tPart (tUn (rU fun i => .int (-i)) (tC (.int 1)))) := po_some (pe_un un_neg pe_int)
  have hsp : PO X (some (.Constant (.int 0) k0 p0)) (tPart (tC (.int 0))) := po_some pe_int
  refine wpAny_Slice (thn (po_none.run pins s1 σ H1 (fun o H2 => o = none ∧ H2 = H1) I1 ⟨rfl, rfl⟩) fun vl s2 ⟨l, H2, I2, pl, el, e2⟩ => ?_)
  subst el e2
  refine thn (hsp.run pins s2 σ H2 (fun o H3 => o = some 0 ∧ H3 = H2) I2 ⟨0, rfl, rfl, rfl⟩) fun vu s3 ⟨u, H3, I3, pu, eu, e3⟩ => ?_
  subst eu e3
  refine thn (hst.run pins s3 σ H3 (fun o H4 => o = some (-1) ∧ H4 = H3) I3 ⟨1, rfl, -1, rfl, rfl, rfl⟩) fun vs s4 ⟨o, H4, I4, ps, eo, e4⟩ => ?_
  subst eo e4
  have I5 : L2.Inv X pins σ H4 { s4 with heap := s4.heap.push { cls := .type "slice", data := .fields #[vl, vu, vs] } } := I4.kept (t' := s4.toks) fun b ob q => Heap.get?_push_of_some _ q
  show wpAny (model X.prog X.w) X.A (subscriptTail e (.Slice none (some (.Constant (.int 0) k0 p0)) (some (.UnaryOp .USub (.Constant (.int 1) k p1) p2)) p3) (.ref a) (.ref s4.heap.objs.size)) (EP X pins σ Q) X.xe { s4 with heap := s4.heap.push { cls := .type "slice", data := .fields #[vl, vu, vs] } }
  obtain ⟨its, r, ht, hz⟩ := I5.tuple hx
  cases r with
  | cons r0 rs =>
    rename_i u0 us
    have hlen := rs.length
    refine tail_any (ops := [.ref a, .ref s4.heap.objs.size]) ht.typeIs (PyProof.Rows.slot_tuple_getitem.lookup) ?_ (by with_unfolding_all rfl)
    simp only [List.length_cons] at hz
    refine getItem_tuple_rev0 ht (Heap.IsSliceOf.new _ vl vu vs) pl pu ps ?_ (by omega)
    refine ⟨.ref _, _, I5.laid (t' := s4.toks) (o := .tup ys.reverse) (fun b ob q => Heap.get?_push_of_some _ q) (Nat.le_refl _) ?_, rfl, q _ (I5.hok.fresh (Nat.le_refl _))⟩
    exact ⟨by rw [List.length_reverse]; omega, _, L2.Vals.reverse rs, IsTup.new _ _⟩
section
variable {X : Cx} {cl : Calls}
theorem se_rev0 {a : CE} {e : Expr} {k k0 : Nat} {p0 p1 p2 p3 pos : Pos} (ha : SE X cl a e) : SE X cl (.mth .rev0 a .nil) (.Subscript e (.Slice none (some (.Constant (.int 0) k0 p0)) (some (.UnaryOp .USub (.Constant (.int 1) k p1) p2)) p3) pos) := by
  refine SE.ofN (by simp only [skA, sk, skAs, sks]) (PE.imp (pe_rev0 ha.lk) fun σ H Q q => ?_) (fun _ => rfl)
  obtain ⟨bx, P, env, bs, d, bs', h1, h2, h3⟩ := q
  simp only [ev, evs, bind_def, pure_def, bnd_some, lift_some, ret_some] at h2
  obtain ⟨x, b1, ex, ds, b2, ⟨rfl, rfl⟩, eg, rfl⟩ := h2
  simp only [sk, sks, List.append_nil] at h1
  cases x with
  | tup zs =>
    cases zs with
    | nil => simp [mthD] at eg
    | cons z zs =>
      simp only [mthD, Option.some.injEq] at eg; subst eg
      refine ⟨bx, P, env, bs, _, _, h1, ex, fun v H1 bx1 e1 r1 => ?_⟩
      have kk : ∀ v H', EPost (RX X bx1) (RX X bx1) H1 H' _ → NewRep (RX X bx1) (Pn (RX X bx1) (Pn (RX X bx1) P H) H1) H1 H' _ v → Q v H' := fun v H3 e3 r3 => h3 v H3 bx1 (e1.trans e3) (r3.back e1 e3)
      obtain ⟨a, xs, rfl, h1, r1⟩ := r1.tup_
      cases xs with
      | nil => simp [Reps] at r1
      | cons y ys =>
        obtain ⟨r0, rr, er, _, rs⟩ := r1
        cases er
        exact ⟨a, _, _, rfl, h1, fun p hp => ans_tup e1.box hp (fun a p => p.2) kk (Reps.rev rs)⟩
  | _ => simp [mthD] at eg
end
end En

/-! The engine, part n5: a dict of one pair, its key a tuple. -/
namespace En
open PySem PySem.Spec PyProof.Rows L2
section
variable {K0 : Type} [DecidableEq K0] {prog : Program} {w : World} {A : Around} {E : Value → Shared → Prop} {s : Shared} {knd : HeapKind prog w K0}
theorem dict_pairsH {env : PySem.Env} {keys : List (Option Expr)} {values : List Expr} {pos : Pos} {pairs : List (Sem Value × Sem Value)} {Q : Value → Shared → Prop} (hu : knd.room A)
    (hshape : (evalEachOpt keys env).zip ((evalEach values env).map fun v => do let x ← v; standAt pos; pure x) = pairs.map fun p => (some p.1, p.2)) (h0 : pairs ≠ []) (hlen : pairs.length ≤ 15)
    (h : wpAny (model prog w) A (evalPairs pairs) (fun vs s₁ => ∃ ps, CarriesH knd s₁.heap vs ps ∧ s₁.heap.DictOfH knd s.heap.objs.size [] ∧
      ∀ h' tk, h'.DictOfH knd s.heap.objs.size (storedAllH [] ps) → Heap.SameBut s.heap.objs.size s₁.heap h' → Q (.ref s.heap.objs.size) { s₁ with heap := h', toks := tk }) E
      { s with heap := s.heap.push { cls := .type "dict", data := .dict #[] } }) :
    wpAny (model prog w) A (eval (.Dict keys values pos) env) Q E s := by
  rw [arm_eval_Dict, hshape, dictDisplay_pairs pairs h0 (by omega)]
  exact wpAny_bind (wpAny_standAt (wpAny_bind (wpAny_subDictH (knd := knd) (Q := fun d s' => wpAny (model prog w) A (pure (Value.ref d)) Q E s') hu hlen
    (wpAny_mono h (fun vs s₁ h₁ => by obtain ⟨ps, hc, hm, hq⟩ := h₁; exact ⟨ps, hc, hm, fun h' tk a b => wpAny_pure (hq h' tk a b)⟩) fun _ _ e => e))))
end
section
variable {X : Cx} {cl : Calls}
/-- {k: v}, k a tuple of numbers and texts -/
def tDispT (tk tv : TE) : TE := fun σ H Q => ∀ p, H p = none → tk σ (upd H p (.dT [])) fun x H1 => tv σ H1 fun y H2 => H2 p = some (.dT []) ∧ ∃ (b : Addr) (k : List Key), x = .ref b ∧ H2 b = some (.tup (k.map kV)) ∧ Q (.ref p) (upd H2 p (.dT [(k, y)]))
theorem pe_dispT1 (hu : X.A.units + 1 < cLine) {k v : Expr} {pos : Pos} {tk tv : TE} (hk : PE X k tk) (hv : PE X v tv) : PE X (.Dict [some k] [v] pos) (tDispT tk tv) := by
  refine ⟨fun pins s σ H Q I q => ?_⟩
  have hn := I.hok.fresh (Nat.le_refl s.heap.objs.size)
  have I1 := I.laid (a := s.heap.objs.size) (o := .dT []) (h' := s.heap.push { cls := .type "dict", data := .dict #[] }) (t' := s.toks) (fun _ _ q => Heap.get?_push_of_some _ q) (Nat.le_refl _) (dt_empty s.heap I.big)
  refine dict_pairsH (knd := tupleKind (mixKind X.prog X.w)) (pairs := pairTrees [some k] [v] X.env pos) (show X.A.units < cLine by omega) rfl (by simp [pairTrees]) (by simp [pairTrees]) ?_
  refine pairTrees_cons_walk (thn (hk.run pins _ σ _ _ I1 (q _ hn)) fun u s1 ⟨x, H1, I1, rx, q1⟩ => thn (hv.run pins s1 σ H1 _ I1 q1) fun w2 s2 ⟨y, H2, I2, ry, q2⟩ => pairTrees_nil_walk ?_)
  obtain ⟨e, b, k0, rfl, hb, q3⟩ := q2
  cases rx
  obtain ⟨z, hd, xs0, r0, dd⟩ := dt_of I2.hok e
  cases r0
  refine ⟨[(k0, b, w2)], ⟨rfl, rfl, key_of I2.hok hb, trivial⟩, dd, fun h' tk dd' hs => ⟨.ref s.heap.objs.size, _, ?_, rfl, q3⟩⟩
  obtain ⟨o, es, ep, ho, h2, h3, h4, _, h5⟩ := dd'
  have hne : b ≠ s.heap.objs.size := fun z => by rw [z, e] at hb; cases hb
  exact d_write I2 (by rw [e]; exact True.intro) hs ⟨o, ho⟩ ⟨by rw [sizeLine_eq]; simp, hd, _, .cons ⟨rfl, by rw [upd_ne hne]; exact hb, ry⟩ .nil, o, es, ep, ho, h2, h3, h4, h5⟩
theorem RepB.imm {R : Rx} {P : Addr → Prop} {H : Hp} {d : D} {v : V} (h : RepB R P H d v) (m : isMut d = false) : Rep R P H d v := by
  cases d with
  | lst _ => cases m
  | dct _ _ => cases m
  | _ => exact h
theorem se_dsp1 (hu : X.A.units + 65 < cLine) {a c : CE} {k v : Expr} {pos : Pos} (hk : SE X cl a k) (hv : SE X cl c v) : SE X cl (.mth .dsp1 a (.cons c .nil)) (.Dict [some k] [v] pos) := by
  refine SE.ofN (by simp only [skA, sk]) (PE.imp (pe_dispT1 (by omega) hk.lk hv.lk) fun σ H Q q => ?_) (fun _ => rfl)
  obtain ⟨bx, P, env, bs, d, bs', g1, g2, g3⟩ := q
  simp only [ev, evs, bind_def, pure_def, bnd_some, lift_some, ret_some] at g2
  obtain ⟨x, b1, ex, ds, b2, ⟨vd, b3, e3, r, b4, ⟨rfl, rfl⟩, rfl, rfl⟩, gm, rfl⟩ := g2
  simp only [mthD] at gm
  split at gm
  · rename_i hz
    have hm : isMut vd = false ∧ d = .dct [x] [vd] := by
      cases vd <;> first | (simp at gm; done) | (simp only [Option.some.injEq] at gm; exact ⟨rfl, gm.symm⟩)
    obtain ⟨hm, rfl⟩ := hm
    cases x with
    | tup es =>
      simp only [isTupD] at hz
      obtain ⟨k0, hk0⟩ := Option.isSome_iff_exists.mp hz
      simp only [sk, sks] at g1
      intro p hp
      have e0 : EPost (RX X bx) (RX X bx) H (upd H p (.dT [])) bs := EPost.new g1.box hp
      have nb0 : ¬InBox (RX X bx) p := fun i => by obtain ⟨xs, z⟩ := g1.box.lst i; rw [hp] at z; cases z
      have g1' := g1.onP e0 (P2 := fun a => P a ∧ a ≠ p) (fun a o q e => ⟨q, fun z => by subst z; rw [hp] at e; cases e⟩) fun a q => g1.nob a q.1
      refine ⟨bx, _, env, bs, .tup es, b1, g1'.weak fun i m => by simp [m], ex, fun kx H1 bx1 ep1 r1 => ?_⟩
      refine ⟨bx1, _, env, b1, vd, _, (g1'.weak fun i m => by simp [m]).on ep1, e3, fun vx H2 bx2 ep2 r2 => ?_⟩
      have ep := ep1.trans ep2
      have h2 : H2 p = some (.dT []) := ep.keep _ _ upd_same nb0
      have nb2 : ¬InBox (RX X bx2) p := ep.notbox upd_same nb0
      obtain ⟨b, ys, rfl, hb, rb⟩ := (r1.on ep2 (fun a p => p.2) ep1.box).back ep1 ep2 |>.tupH
      have hys := keys_vals hk0 rb
      subst hys
      refine ⟨h2, b, k0, rfl, hb, ?_⟩
      have rv := (r2.back ep1 ep2).imm hm
      refine g3 _ _ bx2 ((e0.trans ep).write hp nb2) ⟨fun _ => ⟨p, rfl, hp, p, [vx], rfl, .inr ⟨[(k0, vx)], upd_same, by simp [hk0], rfl⟩, nb2, ?_⟩, fun z => by cases z⟩
      refine Reps.writeO h2 (fun _ z => by cases z) (fun _ _ z => by cases z) (fun a q => q.2) (Reps.mono (.refl _) (fun a q => ?_) (.refl _ _) _ _ (Reps.cons rv .nil))
      obtain ⟨q | q, n⟩ := q
      · exact ⟨⟨.inl q.1, n⟩, q.2⟩
      · refine ⟨⟨.inr ?_, n⟩, fun z => by subst z; rw [upd_same] at q; cases q⟩
        by_cases z : a = p
        · rw [z]; exact hp
        · rw [upd_ne z] at q; exact q
    | _ => simp [isTupD] at hz
  · cases gm
end
end En

/-! The engine, part n6: sorted(rows, key=sum, reverse=True). -/
namespace En
open PySem PySem.Spec PyProof.Rows L2
section
variable {prog : Program} {w : World} {A : Around} {E : Value → Shared → Prop} {s : Shared}
theorem sum_tuple {l : Addr} {its : List Value} {ns : List Int} {Q : Value → Shared → Prop} (hh : A.handled = none) (hl : s.heap.IsTuple l its.toArray) (hi : IntsAre its ns)
    (h : ∀ h' tk t', (∀ b o, s.heap.get? b = some o → h'.get? b = some o) → Q (.int ns.sum t') { s with heap := h', toks := tk }) : wpAny (model prog w) A (call (.builtin "sum") [.ref l]) Q E s := by
  obtain ⟨xs, e⟩ := hi.allInts.items
  have hn : numsOf (intItems xs).toList = ns := by rw [← e]; exact hi.numsOf
  rw [nums_intItems] at hn
  rw [e] at hl
  have hlt : l < s.heap.objs.size := by obtain ⟨_, e, _⟩ := hl; exact Heap.lt_size e
  refine call_sum_walkG (wpAny_pyIter_tuple hl ⟨_, _, _, _, _, _, numAt xs, rfl, Walks.tuple (A := A.in1) hh _ l (Nat.ne_of_lt hlt) (intItems xs), ⟨⟨_, Heap.get?_push_size _ rfl, rfl, rfl⟩, hl.at fun o e => Heap.get?_push_of_some _ e⟩, fun b hb => ?_, (fun _ _ => intItems_at), fun h' tk t' hk => ?_⟩)
  · show b < (s.heap.push _).objs.size
    rw [Heap.size_push]
    simp only [List.mem_cons, List.not_mem_nil, or_false] at hb
    rcases hb with rfl | rfl
    · exact Nat.lt_succ_self _
    · exact Nat.lt_succ_of_lt hlt
  · have := h h' tk t' fun b o e => hk b o (fun hb => by
      rw [List.mem_singleton.mp hb] at e
      exact absurd (Heap.lt_size e) (Nat.lt_irrefl _)) (Heap.get?_push_of_some _ e)
    have e2 : (intItems xs).size = xs.size := by simp [intItems]
    rw [e2, preSum_eq, List.take_of_length_le (by simp), hn]; exact this
end
/-! ### sorted, key by key -/
theorem desc_out {α : Type} (L : List α) (key : α → Int) (val : α → Value) {out : List Value} (h : KskOutSt true (L.map key) (L.map val) out) :
    out = (L.mergeSort fun a c => decide (key c ≤ key a)).map val := by
  obtain ⟨ps, hp, ho, hs, hf⟩ := h
  have hs' : ps.Pairwise (fun p q => q.1 ≤ p.1) := hs
  have O : SrtO.Swo fun p q : Int × Value => decide (q.1 < p.1) := ⟨fun x y h => by simp only [decide_eq_true_eq, decide_eq_false_iff_not] at *; omega, fun x y z h1 h2 => by simp only [decide_eq_false_iff_not] at *; omega⟩
  have O2 : SrtO.Swo fun p q : α => decide (key q < key p) := ⟨fun x y h => by simp only [decide_eq_true_eq, decide_eq_false_iff_not] at *; omega, fun x y z h1 h2 => by simp only [decide_eq_false_iff_not] at *; omega⟩
  obtain ⟨h1, h2⟩ := stb_merge O2 (fun a c => decide (key c ≤ key a)) (fun a c => by
    by_cases z : key c ≤ key a
    · simp only [z, decide_true]
      rw [decide_eq_false (by omega)]; rfl
    · simp only [z, decide_false]
      rw [decide_eq_true (by omega)]; rfl) L
  have ez : (L.map key).zip (L.map val) = L.map fun a => (key a, val a) := by
    clear h1 h2 hf hs hs' hp
    induction L with
    | nil => rfl
    | cons a L ih => simp only [List.map_cons, List.zip_cons_cons, ih]
  rw [ez] at hp hf
  have h3 := SrtO.Stb.map (lt := fun p q : Int × Value => decide (q.1 < p.1)) O (fun a => (key a, val a)) h2
  have e : ps = (L.mergeSort fun a c => decide (key c ≤ key a)).map fun a => (key a, val a) := by
    refine SrtO.stb_uniq O (hs'.imp fun {a b} h => ?_) (SrtO.srtd_map h1) ⟨hp.trans h3.perm.symm, fun x => ?_⟩
    · simp only [decide_eq_false_iff_not]; omega
    · rw [h3.cls x]
      have ee : ∀ l : List (Int × Value), l.filter (SrtO.eqv (fun p q : Int × Value => decide (q.1 < p.1)) x) = l.filter (fun p => p.1 == x.1) := fun l => List.filter_congr fun p _ => by
        unfold SrtO.eqv
        by_cases z : p.1 = x.1
        · simp [z]
        · rw [show (p.1 == x.1) = false by simpa using z]
          by_cases z2 : p.1 < x.1
          · simp [z2]
          · have z3 : x.1 < p.1 := by omega
            simp [z3]
      rw [ee, ee]
      exact hf x.1
  rw [ho, e, List.map_map]
  rfl
section
variable {prog : Program} {w : World} {A : Around} {E : Value → Shared → Prop} {s : Shared} {h₀ : Heap} {L l : Addr} {m : Str → Option Value} {news : List (Addr × Obj)} {b : Bool} {vs : List Value} {Q : Value → Shared → Prop}
theorem sortedT_raw {kz : List Int} {f : Value} {kw : List (Str × Value)} (F : Fr h₀ L s.heap m) (N : News h₀ L s.heap news) (hl : IsTup s.heap l vs.toArray) (hlen : kz.length = vs.length) (hZ : vs.length ≤ sizeLine)
    (ha1 : argsOk "sorted" ⟨[.ref l], kw⟩) (ha2 : ∀ x, argsOk "list.sort" ⟨[.ref x], kw⟩) (ht : ∀ x, Builtin.«list.sort» ⟨[.ref x], kw⟩ = ksk_tree x f b)
    (turn : ∀ (i : Nat) (v : Value) (k : Int), vs[i]? = some v → kz[i]? = some k → ∀ (h : Heap) (tk : Nat) (own : List (Addr × Obj)), Fr h₀ L h m → News h₀ L h (news ++ own) →
      wpAny (model prog w) A.in1.in1 (call f [v]) (KskEnd h₀ L m (news ++ own) k { s with heap := h, toks := tk }) (fun _ _ => False) { s with heap := h, toks := tk })
    (h : ∀ D h' tk out c, s.heap.get? D = none → Fr h₀ L h' m → News h₀ L h' ((D, seqObj "list" out c) :: news) → KskOutSt b kz vs out.toList → Q (.ref D) { s with heap := h', toks := tk }) :
    wpAny (model prog w) A (call (.builtin "sorted") [.ref l] kw) Q E s := by
  have hZ2 := hZ
  rw [sizeLine_eq] at hZ2
  refine call_function_entry_kw kind_sorted plain_sorted entry_sorted ha1 ?_
  unfold Builtin.«sorted»
  refine wpAny_bind (m := checkCount "sorted" 1 1 _) (wpAny_pure ?_)
  obtain ⟨o, ho, hc, n, hd⟩ := hl
  refine wpAny_bind (wpAny_collect_seq l (.inr rfl) ho hc hd (fun h1 hk => ?_) (by rw [List.size_toArray]; omega))
  rw [show vs.toArray.toList = vs by simp]
  refine wpAny_bind (wpAny_newList ?_ (by rw [sizeLine_eq]; omega))
  have hoL : (h1.push (seqObj "list" vs.toArray 0)).get? h1.objs.size = some (seqObj "list" vs.toArray 0) := Heap.get?_push_size _ rfl
  have keep : ∀ b o, s.heap.get? b = some o → (h1.push (seqObj "list" vs.toArray 0)).get? b = some o := fun b o q => Heap.get?_push_of_some _ (hk b o q)
  have F1 := F.kept hk
  have hL : L < h1.objs.size := F1.ns.lt
  show wpAny _ _ _ _ _ { s with heap := h1.push (seqObj "list" vs.toArray 0) }
  refine wpAny_bind (wpAny_holding (wpAny_call_entry_kw slot_list_sort ⟨_, hoL, rfl⟩ entry_list_sort ?body (ha2 _)))
  case body =>
    have ht' := ht h1.objs.size
    show wpAny (model prog w) A.in1.in1 (Builtin.«list.sort» ⟨[.ref h1.objs.size], kw⟩) _ _ _
    rw [ht']
    refine ksk_sortSt (s := { s with heap := h1.push (seqObj "list" vs.toArray 0) })
      (F.kept keep) (N.grown keep) hoL (Nat.ne_of_gt hL) (Heap.get?_none_of_le (Nat.le_trans F.above (Nat.le_of_lt hL)))
      (fun p hp => Nat.ne_of_lt (Heap.lt_size (hk _ _ (N p hp).1))) hlen hZ turn fun h' tk out c F' N' k' => ⟨_, rfl, ?_⟩
    refine wpAny_pure ⟨_, rfl, h _ h' tk out c ?_ F' N' k'⟩
    cases q : s.heap.get? h1.objs.size with
    | none => rfl
    | some u => exact absurd (Heap.lt_size (hk _ _ q)) (Nat.lt_irrefl _)
end
section
variable {X : Cx} {pins : List (Addr × Obj)} {σ : L2.St} {H : Hp} {s : Shared}
/-- laid behind a call that may have written the frame -/
theorem inv_laidL {d : Addr} {o : HO} {h' : Heap} {tk : Nat} (I : L2.Inv X pins σ H s) (k : ∀ b u, b ≠ X.env.locals → s.heap.get? b = some u → h'.get? b = some u) (ns : ∀ m, s.heap.Ns X.env.locals m → h'.Ns X.env.locals m) (hn : s.heap.get? d = none)
    (new : ObjOk X.prog X.w (upd H d o) h' d o) : L2.Inv X pins σ (upd H d o) { s with heap := h', toks := tk } := by
  have hd : H d = none := HOk.gone I.hok hn
  have ned : ∀ b u, H b = some u → b ≠ d := fun b u e z => by rw [z, hd] at e; cases e
  refine I.step (g' := s.gens) (d' := s.drawn) (ch := []) (fun _ z => nomatch z) (fun b u hb _ _ q _ => k b u hb q) (fun b u hb _ _ q _ => ⟨u.slots, k b u hb q⟩)
    (fun b u _ q z => by rw [upd_ne (fun e => by rw [e, hn] at q; cases q)]; exact z) (fun b u _ q => ?_) (fun b xs q => by rw [upd_ne (ned _ _ q)]; exact q) (fun b o u q => by rw [upd_ne (ned _ _ q)]; exact q)
    (fun b ps q => ⟨#[], by rw [upd_ne (ned _ _ q), q]; simp⟩) ns (fun b u q => ?_) I.bare
  · by_cases h1 : b = X.env.locals
    · obtain ⟨m, hn, _⟩ := I.loc
      obtain ⟨o', _, _, e', _⟩ := ns m hn
      exact ⟨o', by rw [h1]; exact e'⟩
    · exact ⟨u, k b u h1 q⟩
  · by_cases h1 : b = d
    · subst h1
      rw [upd_same] at q
      cases q
      exact new
    · rw [upd_ne h1] at q
      refine (I.hok b u q).stay (fun c v hc z => k c v (fun w => ?_) z) (fun c z => by rw [upd_ne (ned _ _ z)]; exact z) (fun c xs z => by rw [upd_ne (ned _ _ z)]; exact z)
      rw [w] at hc
      rcases hc with hc | hc
      · rw [← hc, I.free] at q; cases q
      · rw [I.free] at hc; cases hc
/-- sorted(rows, key=sum, reverse=True) -/
theorem skey_run (hh : X.A.handled = none) (I : L2.Inv X pins σ H s) {a : Addr} {xs : List V} (hsq : SqT X.K H a xs) {bx : Option (Addr × Addr)} {P : Addr → Prop} {ds : List D} (r : Reps (RX X bx) P H ds xs) (hok : (ds.all fun r => (sumT r).isSome) = true) {Q : Value → Shared → Prop}
    (q : ∀ p ys, H p = none → Reps (RX X bx) P H (ds.mergeSort fun x y => decide ((sumT y).getD 0 ≤ (sumT x).getD 0)) ys → ∀ s', L2.Inv X pins σ (upd H p (.lst ys)) s' → Q (.ref p) s') :
    wpAny (model X.prog X.w) X.A (call (.builtin "sorted") [.ref a] [(Str.ofString "key", .builtin "sum"), (Str.ofString "reverse", .bool true)]) Q X.xe s := by
  obtain ⟨its, rv, hl, hz⟩ := I.tuple hsq
  obtain ⟨L, rfl, rfl, rfl, hL⟩ := triples r rv
  obtain ⟨m, F⟩ := I.fr
  rw [List.length_map] at hz
  refine sortedT_raw (kz := L.map fun a => (sumT a.1).getD 0) F (news_all (g := X.base)) hl (by simp) (by rw [List.length_map]; exact hz) (ksk_s2 _ _ _) (fun _ => ksk_l2 _ _ _) (fun _ => ksk_t5 _ _ _) (fun i v k hv hk h tk own F' N' => ?_) fun D h' tk out c hD F' N' ko => ?_
  · rw [List.getElem?_map] at hv hk
    cases e : L[i]? with
    | none => rw [e] at hv; cases hv
    | some t =>
      rw [e] at hv hk
      simp only [Option.map_some, Option.some.injEq] at hv hk
      subst hv hk
      have hm := List.mem_of_getElem? e
      obtain ⟨r1, r2⟩ := hL t hm
      have ho : (sumT t.1).isSome = true := by
        rw [List.all_map, List.all_eq_true] at hok
        exact hok t hm
      obtain ⟨d, x, v⟩ := t
      cases d with
      | tup es =>
        simp only [sumT, Option.isSome_map] at ho
        obtain ⟨ns, hns⟩ := Option.isSome_iff_exists.mp ho
        simp only [Rep] at r1
        obtain ⟨b, ys, rfl, hb, rb⟩ := r1
        have := Reps.ints rb hns
        subst this
        cases r2
        obtain ⟨_, its2, rv2, o, ho, hc, n, hd⟩ := I.hok _ _ hb
        have bL : b ≠ X.env.locals := fun z => by rw [z, I.free] at hb; cases hb
        have bB : X.base.get? b = none := by
          cases e : X.base.get? b with
          | none => rfl
          | some u => have := (I.bs b u e).2; rw [hb] at this; cases this
        have ho' := (N' (b, o) (List.mem_append_left _ (mem_allNews bL bB ho))).1
        refine sum_tuple (s := { s with heap := h, toks := tk }) hh ⟨o, ho', hc, n, hd⟩ rv2.ints fun h2 tk2 t2 kk => ?_
        have en : (sumT (.tup es)).getD 0 = ns.sum := by simp [sumT, hns]
        show KskEnd _ _ _ _ ((sumT (.tup es)).getD 0) _ _ _
        rw [en]
        exact KskEnd.intro (F'.kept kk) (N'.grown kk) fun p hp => hp
      | _ => cases ho
  · have e := desc_out L (fun a => (sumT a.1).getD 0) (·.2.2) ko
    let M := L.mergeSort fun a c => decide ((sumT c.1).getD 0 ≤ (sumT a.1).getD 0)
    have hM : ∀ a ∈ M, a ∈ L := fun a ha => (List.mergeSort_perm L _).mem_iff.mp ha
    have e1 : M.map (·.1) = (L.map (·.1)).mergeSort fun x y => decide ((sumT y).getD 0 ≤ (sumT x).getD 0) := List.map_mergeSort fun a _ c _ => rfl
    refine q D (M.map (·.2.1)) (HOk.gone I.hok hD) ?_ _ (inv_laidL (tk := tk) I (fun b u hb e => ?_) (fun m' hm => ?_) hD ⟨?_, out.toList, c, ?_, ?_⟩)
    · rw [← e1]
      exact Reps.ofL (·.1) (·.2.1) fun a ha => (hL a (hM a ha)).1
    · cases e2 : X.base.get? b with
      | some u' =>
        have := I.bk b u' e2
        rw [e] at this; cases this
        exact F'.keep b _ e2
      | none => exact (N' (b, u) (List.mem_cons_of_mem _ (mem_allNews hb e2 e))).1
    · rw [SlX.ns_only hm F.ns]
      exact F'.ns
    · rw [List.length_map]
      exact Nat.le_trans (Nat.le_of_eq (List.mergeSort_perm L _).length_eq) hz
    · rw [e]
      exact vals_ofL (·.2.1) (·.2.2) fun a ha => (hL a (hM a ha)).2
    · have := (N' _ (List.mem_cons_self ..)).1
      simpa using this
end
end En

/-! The engine, part n7: sorted(rows, key=sum, reverse=True) as an expression. -/
namespace En
open PySem PySem.Spec PyProof.Rows L2
section
variable {X : Cx} {cl : Calls}
def tSkey (X : Cx) (te : TE) : TE := fun σ H Q => te σ H fun x H1 => ∃ a xs ds bx P, x = .ref a ∧ SqT X.K H1 a xs ∧ Reps (RX X bx) P H1 ds xs ∧ (ds.all fun r => (sumT r).isSome) = true ∧
  ∀ p ys, H1 p = none → Reps (RX X bx) P H1 (ds.mergeSort fun x y => decide ((sumT y).getD 0 ≤ (sumT x).getD 0)) ys → Q (.ref p) (upd H1 p (.lst ys))
theorem pe_skey {o : Expr} {te : TE} {p p2 k1 k2 p3 pos : Pos} {j : Nat} (hc : X.calm = true) (hg : Gl X "sorted") (hm : X.mg "sorted" = none) (hg2 : Gl X "sum") (hm2 : X.mg "sum" = none) (hn : ns o = true) (ha : PE X o te) :
    PE X (.Call (.Name "sorted" p) [o] [⟨some "key", .Name "sum" p2, k1⟩, ⟨some "reverse", .Constant (.bool true) j p3, k2⟩] pos) (tSkey X te) := by
  refine ⟨fun pins s σ H Q I h => ?_⟩
  refine wpAny_Call_Name_kw (ld_blt I hg hm (u := .builtin "sorted") (by decide +kernel) ?_)
  refine PyProof.Rows.callWith_kw (PyProof.Rows.args_cons (thn (ha.run pins s σ H _ I h) fun v s1 ⟨x, H1, I1, r1, q1⟩ => PyProof.Rows.args_nil ?_) (star_ns hn)) (by rw [star_ns hn]; rfl) (by rw [star_ns hn]; rfl)
  obtain ⟨a, xs, ds, bx, P, rfl, hsq, r, hok, q⟩ := q1
  cases r1
  show wpAny _ _ (evalAll ((do let v ← eval (.Name "sum" p2) X.env; standAt pos; pure v) :: (do let v ← eval (.Constant (.bool true) j p3) X.env; standAt pos; pure v) :: [])) _ _ s1
  refine wpAny_evalAll_cons (wpAny_bind (ld_blt I1 hg2 hm2 (u := .builtin "sum") (by decide +kernel) (wpAny_bind (wpAny_standAt (wpAny_pure ?_)))))
  refine wpAny_evalAll_cons (wpAny_bind (thn (pe_bl.run pins s1 σ H1 (fun v H2 => v = .bl true ∧ H2 = H1) I1 ⟨rfl, rfl⟩) fun u s2 ⟨y, H2, I2, r2, e1, e2⟩ => wpAny_bind (wpAny_standAt (wpAny_pure ?_))))
  subst e1 e2
  cases r2
  refine wpAny_evalAll_nil ?_
  exact skey_run (I2.ok.hd hc) I2 hsq r hok fun p ys h1 h2 s' I' => ⟨.ref p, _, I', rfl, q p ys h1 h2⟩
theorem se_skey {a : CE} {o : Expr} {p p2 k1 k2 p3 pos : Pos} {j : Nat} (hc : X.calm = true) (hg : Gl X "sorted") (hm : X.mg "sorted" = none) (hg2 : Gl X "sum") (hm2 : X.mg "sum" = none) (hn : ns o = true) (ha : SE X cl a o) :
    SE X cl (.mth .skey a .nil) (.Call (.Name "sorted" p) [o] [⟨some "key", .Name "sum" p2, k1⟩, ⟨some "reverse", .Constant (.bool true) j p3, k2⟩] pos) := by
  refine SE.ofN (by simp only [skA, sk, skAs, sks]) (PE.imp (pe_skey hc hg hm hg2 hm2 hn ha.lk) fun σ H Q q => ?_) (fun _ => rfl)
  obtain ⟨bx, P, env, bs, d, bs', h1, h2, h3⟩ := q
  simp only [ev, evs, bind_def, pure_def, bnd_some, lift_some, ret_some] at h2
  obtain ⟨x, b1, ex, ds, b2, ⟨rfl, rfl⟩, eg, rfl⟩ := h2
  simp only [sk, sks, List.append_nil] at h1
  refine ⟨bx, P, env, bs, x, _, h1, ex, fun v H1 bx1 e1 r1 => ?_⟩
  have kk : ∀ v H', EPost (RX X bx1) (RX X bx1) H1 H' bs' → NewRep (RX X bx1) (Pn (RX X bx1) (Pn (RX X bx1) P H) H1) H1 H' d v → Q v H' := fun v H3 e3 r3 => h3 v H3 bx1 (e1.trans e3) (r3.back e1 e3)
  simp only [mthD] at eg
  split at eg
  · rename_i rows
    split at eg
    · rename_i hok
      simp only [Option.some.injEq] at eg; subst eg
      obtain ⟨a, xs, rfl, h1, r1⟩ := r1.tup_
      exact ⟨a, xs, rows, bx1, _, rfl, h1, r1, hok, fun p ys hp ry => ans_lst e1.box hp (fun a p => p.2) kk ry⟩
    · cases eg
  · cases eg
end
end En

/-! The engine, part o: the state between statements. -/
namespace En
open PySem PySem.Spec PyProof.Rows L2

/-- where a def began: the box, the heap, what was frozen; a set that stays with the heap it stays of -/
structure Rf where
  bx : Option (Addr × Addr)
  H : Hp
  P : Addr → Prop
  F : Addr → Prop
  HF : Hp
  bxF : Option (Addr × Addr)
structure StRel (X : Cx) (r : Rf) (bx : Option (Addr × Addr)) (P : Addr → Prop) (σ : L2.St) (H : Hp) (env : Env) (bs : BS) : Prop where
  post : EPost (RX X r.bx) (RX X bx) r.H H bs
  sub : ∀ a, P a → Pn (RX X bx) r.P r.H a
  slot : ∀ (i : Nat) (d : D) (f : Bool), env[i]? = some (some (d, f)) → ∃ v, σ[i]? = some (some v) ∧ (f = false → Rep (RX X bx) P H d v) ∧ (f = true → OwnRep (RX X bx) P H d v ∧ ∀ a, v = .ref a → ¬P a ∧ r.H a = none)
  dist : ∀ (i j : Nat) (d e : D) (a : Addr), env[i]? = some (some (d, true)) → env[j]? = some (some (e, true)) → σ[i]? = some (some (.ref a)) → σ[j]? = some (some (.ref a)) → i = j
  len : env.length ≤ σ.length
  frz : ∀ a o, r.F a → r.HF a = some o → P a
  fext : Ext r.F r.HF H
  bxf : ∀ p, r.bxF = some p → bx = some p
theorem frzE_length : ∀ (S : List Nat) (env : Env), (frzE S env).length = env.length
  | [], _ => rfl
  | i :: S, env => by unfold frzE; rw [List.length_modify, frzE_length S env]
theorem frzE_some : ∀ {S : List Nat} {env : Env} {i : Nat} {d : D} {f : Bool}, (frzE S env)[i]? = some (some (d, f)) → ∃ f0, env[i]? = some (some (d, f0)) ∧ (f = true → f0 = true ∧ i ∉ S) ∧ (f = false → f0 = false ∨ i ∈ S)
  | [], env, i, d, f, h => ⟨f, h, fun e => ⟨e, by simp⟩, fun e => .inl e⟩
  | j :: S, env, i, d, f, h => by
    unfold frzE at h
    rw [List.getElem?_modify] at h
    by_cases e : j = i
    · subst e
      simp only [if_true] at h
      cases q : (frzE S env)[j]? with
      | none => rw [q] at h; cases h
      | some o =>
        rw [q] at h
        cases o with
        | none => simp at h
        | some p =>
          obtain ⟨d', f'⟩ := p
          simp at h
          obtain ⟨rfl, rfl⟩ := h
          obtain ⟨f0, h1, h2, h3⟩ := frzE_some q
          exact ⟨f0, h1, fun z => (by cases z), fun _ => .inr (by simp)⟩
    · simp only [e, if_false] at h
      have h' : (frzE S env)[i]? = some (some (d, f)) := by
        cases q : (frzE S env)[i]? with
        | none => rw [q] at h; cases h
        | some o => rw [q] at h; simpa using h
      obtain ⟨f0, h1, h2, h3⟩ := frzE_some h'
      exact ⟨f0, h1, fun z => ⟨(h2 z).1, by simp only [List.mem_cons, not_or]; exact ⟨fun w => e w.symm, (h2 z).2⟩⟩, fun z => (h3 z).imp id fun m => List.mem_cons_of_mem _ m⟩
section
variable {X : Cx} {r : Rf} {bx : Option (Addr × Addr)} {P : Addr → Prop} {σ : L2.St} {H : Hp} {env : Env} {bs : BS}
theorem StRel.nob (h : StRel X r bx P σ H env bs) : ∀ a, P a → ¬InBox (RX X bx) a := fun a p => (h.sub a p).2
/-- what an expression sees -/
def sunk (P : Addr → Prop) (S : List Nat) (σ : L2.St) (env : Env) : Addr → Prop := fun a => P a ∨ ∃ i d, i ∈ S ∧ env[i]? = some (some (d, true)) ∧ σ[i]? = some (some (.ref a))
theorem StRel.erel (h : StRel X r bx P σ H env bs) (S : List Nat) : ERel (RX X bx) (sunk P S σ env) S H σ env bs := by
  refine ⟨fun i d f e => ?_, h.post.box, fun a p => ?_, h.len⟩
  · obtain ⟨v, e1, h1, h2⟩ := h.slot i d f e
    refine ⟨v, e1, fun z => Rep.mono (.refl _) (fun a p => .inl p) (.refl _ _) _ _ (h1 z), fun z => ⟨(h2 z).1.mono fun a p => .inl p, fun m a w => ?_⟩⟩
    subst z w
    exact .inr ⟨i, d, m, e, e1⟩
  · rcases p with p | ⟨i, d, m, e, e1⟩
    · exact h.nob a p
    · obtain ⟨v, e2, h1, h2⟩ := h.slot i d true e
      rw [e1] at e2
      cases e2
      exact (h2 rfl).1.nb
/-- back to the def's beginning -/
theorem StRel.back (h : StRel X r bx P σ H env bs) {S : List Nat} {bx1 : Option (Addr × Addr)} {H1 : Hp} {b1 : BS} (e : EPost (RX X bx) (RX X bx1) H H1 b1) : ∀ a, Pn (RX X bx1) (sunk P S σ env) H a → Pn (RX X bx1) r.P r.H a := by
  rintro a ⟨p, n⟩
  refine ⟨?_, n⟩
  have none_of : H a = none → r.H a = none := fun q => by
    cases z : r.H a with
    | none => rfl
    | some o =>
      by_cases i : InBox (RX X r.bx) a
      · exact absurd (e.le.inBox (h.post.le.inBox i)) n
      · rw [h.post.keep a o z i] at q; cases q
  rcases p with (p | ⟨i, d, m, e1, e2⟩) | p
  · exact (h.sub a p).1
  · obtain ⟨v, e3, h1, h2⟩ := h.slot i d true e1
    rw [e2] at e3
    cases e3
    exact .inr ((h2 rfl).2 a rfl).2
  · exact .inr (none_of p)
/-- after an evaluation -/
theorem StRel.eval (h : StRel X r bx P σ H env bs) (S : List Nat) {bx1 : Option (Addr × Addr)} {H1 : Hp} {b1 : BS} {P2 : Addr → Prop} (e : EPost (RX X bx) (RX X bx1) H H1 b1)
    (hp : ∀ a o, sunk P S σ env a → H a = some o → P2 a) (hq : ∀ a, P2 a → Pn (RX X bx1) (sunk P S σ env) H a) : StRel X r bx1 P2 σ H1 (frzE S env) b1 := by
  have er := h.erel S
  refine ⟨h.post.trans e, fun a p => h.back e a (hq a p), fun i d f z => ?_, fun i j d d' a z1 z2 s1 s2 => ?_, by rw [frzE_length]; exact h.len, fun a o f z => ?_, fun a o z c => ?_, fun p q => e.le.bx p (h.bxf p q)⟩
  · obtain ⟨f0, z1, z2, z3⟩ := frzE_some z
    obtain ⟨v, e1, h1, h2⟩ := h.slot i d f0 z1
    refine ⟨v, e1, fun w => ?_, fun w => ?_⟩
    · have full : Rep (RX X bx) (sunk P S σ env) H d v := by
        cases f0 with
        | false => exact Rep.mono (.refl _) (fun a p => .inl p) (.refl _ _) _ _ (h1 rfl)
        | true =>
          rcases z3 w with q | q
          · cases q
          · refine ((h2 rfl).1.mono fun a p => .inl p).full fun a w => ?_
            subst w
            exact .inr ⟨i, d, q, z1, e1⟩
      exact Rep.onP e er.nob hp full er.box
    · obtain ⟨rfl, nS⟩ := z2 w
      refine ⟨((h2 rfl).1.mono fun a p => Or.inl p).onP e er.nob hp er.box, fun a w => ?_⟩
      subst w
      refine ⟨fun p2 => ?_, ((h2 rfl).2 a rfl).2⟩
      obtain ⟨q | q, _⟩ := hq a p2
      · rcases q with q | ⟨j, d', m, q1, q2⟩
        · exact ((h2 rfl).2 a rfl).1 q
        · have := h.dist i j d d' a z1 q1 e1 q2
          subst this
          exact nS m
      · obtain ⟨u, hu⟩ := (h2 rfl).1.there
        rw [hu] at q; cases q
  · obtain ⟨f0, z3, z4, _⟩ := frzE_some z1
    obtain ⟨f1, z5, z6, _⟩ := frzE_some z2
    rw [(z4 rfl).1] at z3
    rw [(z6 rfl).1] at z5
    exact h.dist i j d d' a z3 z5 s1 s2
  · have p := h.frz a o f z
    exact hp a o (.inl p) (h.fext a o z (.inl f))
  · have q := h.fext a o z c
    rcases c with c | c
    · exact e.keep a o q (h.nob a (h.frz a o c z))
    · refine e.keep a o q fun i => ?_
      obtain ⟨xs, w⟩ := h.post.box.lst i
      rw [q] at w
      rcases c with ⟨ys, rfl⟩ | ⟨ob, u, rfl⟩ <;> cases w
/-- .. with all that is new at hand -/
theorem StRel.eval1 (h : StRel X r bx P σ H env bs) (S : List Nat) {bx1 : Option (Addr × Addr)} {H1 : Hp} {b1 : BS} (e : EPost (RX X bx) (RX X bx1) H H1 b1) : StRel X r bx1 (Pn (RX X bx1) (sunk P S σ env) H) σ H1 (frzE S env) b1 :=
  h.eval S e (fun a o p z => ⟨.inl p, e.notbox z ((h.erel S).nob a p)⟩) fun a p => p
theorem StRel.setF (h : StRel X r bx P σ H env bs) {i : Nat} {d : D} {v : V} (hi : i < env.length) (hr : Rep (RX X bx) P H d v) : StRel X r bx P (σ.set i (some v)) H (env.set i (some (d, false))) bs := by
  have hs : i < σ.length := Nat.lt_of_lt_of_le hi h.len
  refine ⟨h.post, h.sub, fun j d' f z => ?_, fun j k d1 d2 a z1 z2 s1 s2 => ?_, by simp only [List.length_set]; exact h.len, h.frz, h.fext, h.bxf⟩
  · by_cases e : i = j
    · subst e
      rw [List.getElem?_set_self hi] at z
      cases z
      exact ⟨v, List.getElem?_set_self hs, fun _ => hr, fun w => by cases w⟩
    · rw [List.getElem?_set_ne e] at z
      rw [List.getElem?_set_ne e]
      exact h.slot j d' f z
  · have ne : ∀ {j : Nat} {d1 : D}, (env.set i (some (d, false)))[j]? = some (some (d1, true)) → i ≠ j := fun {j d1} z e => by
      subst e; rw [List.getElem?_set_self hi] at z; cases z
    have n1 := ne z1
    have n2 := ne z2
    rw [List.getElem?_set_ne n1] at z1 s1
    rw [List.getElem?_set_ne n2] at z2 s2
    exact h.dist j k d1 d2 a z1 z2 s1 s2
theorem StRel.setO (h : StRel X r bx P σ H env bs) {i : Nat} {d : D} {a : Addr} (hi : i < env.length) (hr : OwnRep (RX X bx) P H d (.ref a)) (np : ¬P a) (hn : r.H a = none)
    (hd : ∀ (j : Nat) (e : D), env[j]? = some (some (e, true)) → σ[j]? ≠ some (some (.ref a))) : StRel X r bx P (σ.set i (some (.ref a))) H (env.set i (some (d, true))) bs := by
  have hs : i < σ.length := Nat.lt_of_lt_of_le hi h.len
  refine ⟨h.post, h.sub, fun j d' f z => ?_, fun j k d1 d2 b z1 z2 s1 s2 => ?_, by simp only [List.length_set]; exact h.len, h.frz, h.fext, h.bxf⟩
  · by_cases e : i = j
    · subst e
      rw [List.getElem?_set_self hi] at z
      cases z
      exact ⟨.ref a, List.getElem?_set_self hs, fun w => (by cases w), fun _ => ⟨hr, fun b w => by cases w; exact ⟨np, hn⟩⟩⟩
    · rw [List.getElem?_set_ne e] at z
      rw [List.getElem?_set_ne e]
      exact h.slot j d' f z
  · by_cases e1 : i = j
    · by_cases e2 : i = k
      · exact e1.symm.trans e2
      · exfalso
        subst e1
        rw [List.getElem?_set_self hs] at s1
        cases s1
        rw [List.getElem?_set_ne e2] at z2 s2
        exact hd k d2 z2 s2
    · rw [List.getElem?_set_ne e1] at z1 s1
      by_cases e2 : i = k
      · exfalso
        subst e2
        rw [List.getElem?_set_self hs] at s2
        cases s2
        exact hd j d1 z1 s1
      · rw [List.getElem?_set_ne e2] at z2 s2
        exact h.dist j k d1 d2 b z1 z2 s1 s2
theorem StRel.bnd {S : List Nat} {σ1 : L2.St} {env1 : Env} (h : StRel X r bx P σ H env bs) (b : Bnd (RX X bx) P H S σ σ1 env env1) : StRel X r bx P σ1 H env1 bs := by
  have own : ∀ {j : Nat} {d : D}, env1[j]? = some (some (d, true)) → env[j]? = some (some (d, true)) ∧ σ1[j]? = σ[j]? := fun {j d} z => by
    rcases b.slot j d true z with q | ⟨q, _⟩
    · exact q
    · cases q
  refine ⟨h.post, h.sub, fun j d f z => ?_, fun j k d1 d2 a z1 z2 s1 s2 => ?_, by rw [b.ls, b.le]; exact h.len, h.frz, h.fext, h.bxf⟩
  · rcases b.slot j d f z with ⟨q1, q2⟩ | ⟨rfl, v, q1, q2⟩
    · rw [q2]; exact h.slot j d f q1
    · exact ⟨v, q1, fun _ => q2, fun w => by cases w⟩
  · obtain ⟨a1, a2⟩ := own z1
    obtain ⟨b1, b2⟩ := own z2
    rw [a2] at s1
    rw [b2] at s2
    exact h.dist j k d1 d2 a a1 b1 s1 s2
/-- an own list is written -/
theorem StRel.write (h : StRel X r bx P σ H env bs) {i : Nat} {ds ds' : List D} {a : Addr} {ys : List V} (hi : env[i]? = some (some (.lst ds, true))) (hs : σ[i]? = some (some (.ref a))) (hr : Reps (RX X bx) P H ds' ys) :
    StRel X r bx P σ (upd H a (.lst ys)) (env.set i (some (.lst ds', true))) bs := by
  obtain ⟨v, e1, _, h2⟩ := h.slot i _ true hi
  rw [hs] at e1
  cases e1
  obtain ⟨⟨a', xs, e2, hx, nb, _⟩, h3⟩ := h2 rfl
  cases e2
  obtain ⟨np, hn⟩ := h3 a rfl
  have npa : ∀ b, P b → b ≠ a := fun b p z => np (z ▸ p)
  have hlt : i < env.length := by
    obtain ⟨q, _⟩ := List.getElem?_eq_some_iff.mp hi; exact q
  refine ⟨h.post.write hn nb, h.sub, fun j d f z => ?_, fun j k d1 d2 b z1 z2 s1 s2 => ?_, by simp only [List.length_set]; exact h.len, h.frz, fun b o z c => ?_, h.bxf⟩
  · by_cases e : i = j
    · subst e
      rw [List.getElem?_set_self hlt] at z
      cases z
      exact ⟨_, hs, fun w => (by cases w), fun _ => ⟨⟨a, ys, rfl, upd_same, nb, hr.write hx npa⟩, fun b w => by cases w; exact ⟨np, hn⟩⟩⟩
    · rw [List.getElem?_set_ne e] at z
      obtain ⟨v, q1, q2, q3⟩ := h.slot j d f z
      refine ⟨v, q1, fun w => (q2 w).write hx npa, fun w => ⟨?_, (q3 w).2⟩⟩
      subst w
      have o := (q3 rfl).1
      have ne : ∀ b, v = .ref b → b ≠ a := fun b w z2 => by
        subst w z2
        exact e (h.dist i j _ _ _ hi z hs q1)
      cases d with
      | lst es =>
        obtain ⟨b, zs, w, w1, w2, w3⟩ := o
        exact ⟨b, zs, w, by rw [upd_ne (ne b w)]; exact w1, w2, w3.write hx npa⟩
      | dct ks es =>
        obtain ⟨b, zs, w, w1, w2, w3⟩ := o
        refine ⟨b, zs, w, ?_, w2, w3.write hx npa⟩
        rw [upd_ne (ne b w)]
        exact w1
      | _ => exact (show False from o).elim
  · have own : ∀ {j : Nat} {d : D}, (env.set i (some (.lst ds', true)))[j]? = some (some (d, true)) → ∃ d', env[j]? = some (some (d', true)) := fun {j d} z => by
      by_cases e : i = j
      · subst e; exact ⟨_, hi⟩
      · rw [List.getElem?_set_ne e] at z; exact ⟨d, z⟩
    obtain ⟨d3, z3⟩ := own z1
    obtain ⟨d4, z4⟩ := own z2
    exact h.dist j k d3 d4 b z3 z4 s1 s2
  · have q := h.fext b o z c
    rw [upd_ne (fun w => ?_)]
    · exact q
    · subst w
      rw [hx] at q
      cases q
      rcases c with c | ⟨zs, c⟩ | ⟨ob, u, c⟩
      · exact np (h.frz _ _ c z)
      · cases c
      · cases c
theorem StRel.outer {bx1 : Option (Addr × Addr)} {P1 : Addr → Prop} {σ1 : L2.St} {H1 : Hp} {env1 : Env} {b1 : BS} (h1 : StRel X r bx1 P1 σ1 H1 env1 b1)
    (h : StRel X { r with F := P1, HF := H1, bxF := bx1 } bx P σ H env bs) : StRel X r bx P σ H env bs :=
  ⟨h.post, h.sub, h.slot, h.dist, h.len, fun a o f z => h.frz a o (h1.frz a o f z) (h1.fext a o z (.inl f)), fun a o z c => by
    have q := h1.fext a o z c
    rcases c with c | c
    · exact h.fext a o q (.inl (h1.frz a o c z))
    · exact h.fext a o q (.inr c), fun p q => h.bxf p (h1.bxf p q)⟩
theorem StRel.inner (h : StRel X r bx P σ H env bs) : StRel X { r with F := P, HF := H, bxF := bx } bx P σ H env bs :=
  ⟨h.post, h.sub, h.slot, h.dist, h.len, fun a o f z => f, .refl _ _, fun _ q => q⟩
end
end En

/-! The engine, part p: statements. -/
namespace En
open PySem PySem.Spec PyProof.Rows L2

/-- what an end asks -/
def EndOk (X : Cx) (De : Ends) (r : Rf) (x : Fl × Env × BS) : Prop := match x with
  | (.nxt, env, b) => ∀ bx P σ H, StRel X r bx P σ H env b → De.nx σ H
  | (.brk, env, b) => ∀ bx P σ H, StRel X r bx P σ H env b → De.bk σ H
  | (.cnt, env, b) => ∀ bx P σ H, StRel X r bx P σ H env b → De.ct σ H
  | (.ret d, _, b) => ∀ v H bx, EPost (RX X r.bx) (RX X bx) r.H H b → Rep (RX X bx) (Pn (RX X bx) r.P r.H) H d v → De.rt v H
def tX (X : Cx) (f : Env → BS → SR) : TS := fun De σ H => ∃ r bx P env bs x, StRel X r bx P σ H env bs ∧ f env bs = some x ∧ EndOk X De r x
theorem PS.imp {X : Cx} {e : Stmt} {t t' : TS} (h : PS X e t) (f : ∀ D σ H, t' D σ H → t D σ H) : PS X e t' := ⟨fun pins s σ H D I q => h.run pins s σ H D I (f D σ H q)⟩
theorem PSs.imp {X : Cx} {e : List Stmt} {t t' : TS} (h : PSs X e t) (f : ∀ D σ H, t' D σ H → t D σ H) : PSs X e t' := ⟨fun pins s σ H D I q => h.run pins s σ H D I (f D σ H q)⟩
structure SS (X : Cx) (cl : Calls) (W : Nat) (c : CS) (st : Stmt) : Prop where
  run : PS X st (tX X (xs cl W c))
structure SSs (X : Cx) (cl : Calls) (W : Nat) (c : List CS) (st : List Stmt) : Prop where
  run : PSs X st (tX X (xss cl W c))
/-- a name that is stored -/
structure StOk (X : Cx) (i : Nat) (x : Str) : Prop where
  ix : X.N[i]? = some x
  loc : Loc X.env.scope x
  fn : X.fn x = true ∨ X.env.scope.names.lookup x = some .local
section
variable {X : Cx} {cl : Calls} {W : Nat}
theorem ss_nil : SSs X cl W [] [] := by
  refine ⟨PSs.imp pss_nil fun D σ H q => ?_⟩
  obtain ⟨r, bx, P, env, bs, x, h, hf, k⟩ := q
  simp only [xss, Option.some.injEq] at hf
  subst hf
  exact k bx P σ H h
theorem ss_cons {c : CS} {cs : List CS} {s : Stmt} {ss : List Stmt} (h1 : SS X cl W c s) (h2 : SSs X cl W cs ss) : SSs X cl W (c :: cs) (s :: ss) := by
  refine ⟨PSs.imp (pss_cons h1.run h2.run) fun D σ H q => ?_⟩
  obtain ⟨r, bx, P, env, bs, x, h, hf, k⟩ := q
  simp only [xss] at hf
  cases e : xs cl W c env bs with
  | none => rw [e] at hf; cases hf
  | some y =>
    rw [e] at hf
    obtain ⟨fl, env1, b1⟩ := y
    refine ⟨r, bx, P, env, bs, _, h, e, ?_⟩
    cases fl with
    | nxt => exact fun bx' P' σ' H' h' => ⟨r, bx', P', env1, b1, x, h', hf, k⟩
    | brk => simp only [Option.some.injEq] at hf; subst hf; exact k
    | cnt => simp only [Option.some.injEq] at hf; subst hf; exact k
    | ret d => simp only [Option.some.injEq] at hf; subst hf; exact k
theorem s_pas {pos : Pos} : SS X cl W .pas (.Pass pos) := by
  refine ⟨PS.imp ps_pass fun D σ H q => ?_⟩
  obtain ⟨r, bx, P, env, bs, x, h, hf, k⟩ := q
  simp only [xs, Option.some.injEq] at hf
  subst hf
  exact k bx P σ H h
theorem s_doc {x : Str} {j : Nat} {pos pos' : Pos} : SS X cl W .pas (.Expr (.Constant (.str x) j pos) pos') := by
  refine ⟨PS.imp ps_doc fun D σ H q => ?_⟩
  obtain ⟨r, bx, P, env, bs, x, h, hf, k⟩ := q
  simp only [xs, Option.some.injEq] at hf
  subst hf
  exact k bx P σ H h
theorem s_brk {pos : Pos} : SS X cl W .brk (.Break pos) := by
  refine ⟨PS.imp ps_break fun D σ H q => ?_⟩
  obtain ⟨r, bx, P, env, bs, x, h, hf, k⟩ := q
  simp only [xs, Option.some.injEq] at hf
  subst hf
  exact k bx P σ H h
theorem s_cnt {pos : Pos} : SS X cl W .cnt (.Continue pos) := by
  refine ⟨PS.imp ps_continue fun D σ H q => ?_⟩
  obtain ⟨r, bx, P, env, bs, x, h, hf, k⟩ := q
  simp only [xs, Option.some.injEq] at hf
  subst hf
  exact k bx P σ H h
theorem s_retN {pos : Pos} : SS X cl W .retN (.Return none pos) := by
  refine ⟨PS.imp ps_retN fun D σ H q => ?_⟩
  obtain ⟨r, bx, P, env, bs, x, h, hf, k⟩ := q
  simp only [xs, Option.some.injEq] at hf
  subst hf
  exact k _ H bx h.post (by simp only [Rep])
theorem s_ret {c : CE} {e : Expr} {pos : Pos} (he : SE X cl c e) : SS X cl W (.ret c) (.Return (some e) pos) := by
  refine ⟨PS.imp (ps_ret he.full) fun D σ H q => ?_⟩
  obtain ⟨r, bx, P, env, bs, x, h, hf, k⟩ := q
  simp only [xs] at hf
  cases e : ev cl c env bs with
  | none => rw [e] at hf; cases hf
  | some y =>
    rw [e] at hf
    simp only [Option.some.injEq] at hf
    subst hf
    refine ⟨bx, _, env, bs, y.1, y.2, h.erel (skA c), e, fun v H1 bx1 e1 r1 => ?_⟩
    exact k v H1 bx1 (h.post.trans e1) (Rep.mono (.refl _) (h.back e1) (.refl _ _) _ _ r1)
theorem s_expr {c : CE} {e : Expr} {pos : Pos} (he : SE X cl c e) (hs : swapsWith e none pos.line X.env = pure false) : SS X cl W (.expr c) (.Expr e pos) := by
  refine ⟨PS.imp (ps_expr he.lk hs) fun D σ H q => ?_⟩
  obtain ⟨r, bx, P, env, bs, x, h, hf, k⟩ := q
  simp only [xs] at hf
  cases e : ev cl c env bs with
  | none => rw [e] at hf; cases hf
  | some y =>
    rw [e] at hf
    simp only [Option.some.injEq] at hf
    subst hf
    exact ⟨bx, _, env, bs, y.1, y.2, h.erel (sk c), e, fun v H1 bx1 e1 r1 => k _ _ _ _ (h.eval1 (sk c) e1)⟩
theorem s_ife {c : CE} {t u : List CS} {e : Expr} {st su : List Stmt} {pos : Pos} (he : SE X cl c e) (ht : SSs X cl W t st) (hu : SSs X cl W u su) : SS X cl W (.ife c t u) (.If e st su pos) := by
  refine ⟨PS.imp (ps_if he.ts ht.run hu.run) fun D σ H q => ?_⟩
  obtain ⟨r, bx, P, env, bs, x, h, hf, k⟩ := q
  simp only [xs] at hf
  cases e : M.tru (ev cl c env) bs with
  | none => rw [e] at hf; cases hf
  | some y =>
    obtain ⟨b, b1⟩ := y
    rw [e] at hf
    refine ⟨bx, _, env, bs, b, b1, h.erel (sk c), e, fun H1 bx1 e1 => ?_⟩
    cases b with
    | true => exact (iff_of_eq (if_pos rfl)).mpr ⟨r, bx1, _, _, b1, x, h.eval1 (sk c) e1, by simpa using hf, k⟩
    | false => exact (iff_of_eq (if_neg Bool.false_ne_true)).mpr ⟨r, bx1, _, _, b1, x, h.eval1 (sk c) e1, by simpa using hf, k⟩
/-! ### name = e -/
theorem set_full {i : Nat} {c : CE} : ∀ (D : Ends) σ H, fr c = false → tX X (xs cl W (.set i c)) D σ H → tAsg (tF X (skA c) (ev cl c)) (gName i) D σ H := by
  intro D σ H hfr q
  obtain ⟨r, bx, P, env, bs, x, h, hf, k⟩ := q
  simp only [xs] at hf
  cases e : ev cl c env bs with
  | none => rw [e] at hf; cases hf
  | some y =>
    rw [e] at hf
    simp only at hf
    split at hf
    · rename_i hi
      simp only [Option.some.injEq] at hf
      subst hf
      refine ⟨bx, _, env, bs, y.1, y.2, h.erel (skA c), e, fun v H1 bx1 e1 r1 => ?_⟩
      have st := (h.eval1 (skA c) e1).setF (by rw [frzE_length]; exact hi) r1
      rw [hfr, Bool.false_and] at k
      exact k _ _ _ _ st
    · cases hf
theorem set_new {i : Nat} {c : CE} : ∀ (D : Ends) σ H, fr c = true → tX X (xs cl W (.set i c)) D σ H → tAsg (tN X (skA c) (ev cl c)) (gName i) D σ H := by
  intro D σ H hfr q
  obtain ⟨r, bx, P, env, bs, x, h, hf, k⟩ := q
  simp only [xs] at hf
  cases e : ev cl c env bs with
  | none => rw [e] at hf; cases hf
  | some y =>
    rw [e] at hf
    simp only at hf
    split at hf
    · rename_i hi
      simp only [Option.some.injEq] at hf
      subst hf
      refine ⟨bx, _, env, bs, y.1, y.2, h.erel (skA c), e, fun v H1 bx1 e1 r1 => ?_⟩
      have st : StRel X r bx1 (fun b => Pn (RX X bx1) (sunk P (skA c) σ env) H b ∧ (isMut y.1 = true → v ≠ .ref b)) σ H1 (frzE (skA c) env) y.2 := by
        refine h.eval _ e1 (fun a o p z => ⟨⟨.inl p, e1.notbox z ((h.erel _).nob a p)⟩, fun m w => ?_⟩) fun a p => p.1
        obtain ⟨a', q1, q2, _⟩ := r1.1 m
        rw [w] at q1; cases q1
        rw [q2] at z; cases z
      rw [hfr, Bool.true_and] at k
      by_cases m : isMut y.1 = true
      · rw [m] at k
        obtain ⟨a, rfl, q2, q3⟩ := r1.1 m
        refine k _ _ _ _ (st.setO (by rw [frzE_length]; exact hi) (q3.mono fun b p => ⟨p.1, fun _ w => p.2 (by cases w; rfl)⟩) (fun p => p.2 m rfl) ?_ fun j d z s => ?_)
        · have nb := q3.nb
          cases z : r.H a with
          | none => rfl
          | some o =>
            by_cases i : InBox (RX X r.bx) a
            · exact absurd (e1.le.inBox (h.post.le.inBox i)) nb
            · have := h.post.keep a o z i; rw [q2] at this; cases this
        · obtain ⟨f0, z1, z2, _⟩ := frzE_some z
          rw [(z2 rfl).1] at z1
          obtain ⟨v, s1, _, h2⟩ := h.slot j d true z1
          rw [s] at s1; cases s1
          obtain ⟨u, hu⟩ := (h2 rfl).1.there
          rw [q2] at hu; cases hu
      · have m' : isMut y.1 = false := by simpa using m
        rw [m'] at k
        exact k _ _ _ _ (st.setF (by rw [frzE_length]; exact hi) (Rep.mono (.refl _) (fun a p => ⟨p, fun w => absurd w m⟩) (.refl _ _) _ _ (r1.2 m')))
    · cases hf
theorem s_set {i : Nat} {c : CE} {x : Str} {e : Expr} {pos pos' : Pos} (hN : X.N.Nodup) (ho : StOk X i x) (he : SE X cl c e) (hs : swapsWith e (some (.Name x pos')) pos.line X.env = pure false) : SS X cl W (.set i c) (.Assign [.Name x pos'] e pos) := by
  cases hfr : fr c with
  | false => exact ⟨PS.imp (ps_set hN ho.ix ho.loc he.full hs ho.fn) fun D σ H q => set_full D σ H hfr q⟩
  | true => exact ⟨PS.imp (ps_set hN ho.ix ho.loc (he.nw hfr) hs ho.fn) fun D σ H q => set_new D σ H hfr q⟩
theorem s_setLc {i : Nat} {g : CG} {it : CI} {ifs : CEs} {elt : CE} {own : List (Str × Nat)} {x : Str} {tg iter eelt : Expr} {eifs : List Expr} {scope : Scope} {pos pos' spos : Pos} (hc : X.calm = true) (hN : X.N.Nodup) (ho : StOk X i x) (hl : X.env.scope.names.lookup x = some .local)
    (hs : swapsWith (.ListComp eelt [⟨tg, iter, eifs, 0⟩] scope pos) (some (.Name x pos')) spos.line X.env = pure true) (ok : BlkOk X.N X.env.scope scope own)
    (hgs : ∀ i ∈ gsl g, i ∈ own.map (·.2)) (hi : SI X cl tg it iter)
    (hg : ∀ s H C cl' fp, PG (X.blk s H scope (compEnvC scope cl' C X.env) fp) tg (tGd X g))
    (ht : ∀ s H C cl' fp, STs (X.blk s H scope (compEnvC scope cl' C X.env) fp) cl ifs eifs)
    (he : ∀ s H C cl' fp, SE (X.blk s H scope (compEnvC scope cl' C X.env) fp) cl elt eelt)
    (hsi : ∀ x, foldedSetIterable iter X.env x = pure x) : SS X cl W (.set i (.lc g it ifs elt (own.map (·.2)))) (.Assign [.Name x pos'] (.ListComp eelt [⟨tg, iter, eifs, 0⟩] scope pos) spos) := by
  refine ⟨PS.imp (ps_setLc (tt := tTr X (sks ifs) (tvs cl ifs)) (te := tF X (skA elt) (ev cl elt)) hc hN ho.ix hl hs hi.lk ok hg (fun s H C cl' fp => (ht s H C cl' fp).run) (fun s H C cl' fp => (he s H C cl' fp).full) hsi) fun D σ H q => ?_⟩
  have q2 := set_new (X := X) (cl := cl) D σ H rfl q
  exact tn_lc hgs σ H _ q2
/-! ### targets = e -/
theorem s_setT {g : CG} {c : CE} {tg e : Expr} {pos : Pos} (hg : PG X tg (tGd X g)) (hn : ns tg = true) (he : SE X cl c e) (hs : swapsWithSole [tg] e pos.line X.env = pure false) (hw : swappedStores [tg] e X.env = pure none) : SS X cl W (.setT g c) (.Assign [tg] e pos) := by
  refine ⟨PS.imp (ps_asg he.full hg hs hw (by rw [asg_ns hn]; rfl)) fun D σ H q => ?_⟩
  obtain ⟨r, bx, P, env, bs, x, h, hf, k⟩ := q
  simp only [xs] at hf
  cases e : ev cl c env bs with
  | none => rw [e] at hf; cases hf
  | some y =>
    rw [e] at hf
    simp only at hf
    cases eb : bindG g y.1 (frzE (skA c) env) with
    | none => rw [eb] at hf; cases hf
    | some env1 =>
      rw [eb] at hf
      simp only [Option.some.injEq] at hf
      subst hf
      refine ⟨bx, _, env, bs, y.1, y.2, h.erel (skA c), e, fun v H1 bx1 e1 r1 => ?_⟩
      have st := h.eval1 (skA c) e1
      exact ⟨bx1, _, y.1, _, env1, st.len, r1, eb, fun σ1 b => k _ _ _ _ (st.bnd b)⟩
/-! ### loops -/
theorem s_for {g : CG} {it : CI} {body : List CS} {tg iter : Expr} {sb : List Stmt} {pos : Pos} (hp : PassesOwn (model X.prog X.w) X.A X.env X.xe) (hc : X.calm = true) (hi : SI X cl tg it iter) (hg : PG X tg (tGd X g)) (hb : SSs X cl W body sb)
    (hs : ∀ x, foldedSetIterable iter X.env x = pure x) : SS X cl W (.forr g it body) (.For tg iter sb [] pos) := by
  refine ⟨PS.imp (ps_for hp hc hi.full hg hb.run hs) fun D σ H q => ?_⟩
  obtain ⟨r, bx, P, env, bs, x, h, hf, k⟩ := q
  simp only [xs] at hf
  cases e : evI cl it env bs with
  | none => rw [e] at hf; cases hf
  | some y =>
    obtain ⟨ds, b1⟩ := y
    rw [e] at hf
    simp only at hf
    refine ⟨bx, _, env, bs, ds, b1, h.erel (skIA it), e, fun J H1 bx1 e1 iok => ?_⟩
    have st1 := h.eval1 (skIA it) e1
    generalize hP1 : Pn (RX X bx1) (sunk P (skIA it) σ env) H = P1 at st1 iok
    let r1 : Rf := { r with F := P1, HF := H1, bxF := bx1 }
    let Iv : Nat → L2.St → Hp → Prop := fun i σ' Hx => i ≤ ds.length ∧ ∃ bxh Ph envh bh, RxLe (RX X bx1) (RX X bxh) ∧ StRel X r1 bxh Ph σ' Hx envh bh ∧ forLoop g (xss cl W body) (ds.drop i) envh bh = some x
    refine ⟨fun i m σ' Hx => m = ds.length - i ∧ Iv i σ' Hx, ⟨_, rfl, Nat.zero_le _, bx1, P1, _, b1, .refl _, st1.inner, hf⟩, ?_⟩
    rintro i m σ' Hx ⟨rfl, hi, bxh, Ph, envh, bh, le, st, hl⟩
    obtain ⟨hstop, hgo⟩ := iok (RX X bxh) Hx le st.fext
    by_cases hlt : i < ds.length
    · refine .inr ?_
      have hd : ds[i]? = some ds[i] := List.getElem?_eq_getElem hlt
      obtain ⟨go1, yld⟩ := hgo i _ hd
      rw [List.drop_eq_getElem_cons hlt] at hl
      simp only [forLoop] at hl
      refine ⟨go1, Iv (i + 1), fun σ2 H2 w => ⟨_, (show ds.length - (i + 1) < ds.length - i by omega), rfl, w⟩, fun v H' hy => ?_⟩
      obtain ⟨hH', rx⟩ := yld v H' hy
      have st' : StRel X r1 bxh Ph σ' H' envh bh := by
        rcases hH' with rfl | ⟨T, ys, hT, rfl⟩
        · exact st
        · have e2 : EPost (RX X bxh) (RX X bxh) Hx (upd Hx T (.tup ys)) bh := .new st.post.box hT
          refine st.eval [] e2 (fun a o p z => ?_) fun a p => ⟨.inl (.inl p), st.nob a p⟩
          rcases p with p | ⟨j, d, m, _⟩
          · exact p
          · cases m
      have ritem : Rep (RX X bxh) Ph H' ds[i] v := Rep.mono (.refl _) (fun a ⟨p, o, z⟩ => st.frz a o p z) (.refl _ _) _ _ rx
      cases eb : bindG g ds[i] envh with
      | none => rw [eb] at hl; cases hl
      | some env1 =>
        rw [eb] at hl
        simp only at hl
        refine ⟨bxh, Ph, ds[i], envh, env1, st'.len, ritem, eb, fun σ1 bd => ?_⟩
        have st2 := st'.bnd bd
        cases ex : xss cl W body env1 bh with
        | none => rw [ex] at hl; cases hl
        | some z =>
          obtain ⟨fl, env2, b2⟩ := z
          rw [ex] at hl
          refine ⟨r1, bxh, Ph, env1, bh, _, st2, ex, ?_⟩
          have nx : ∀ bx' P' σ2 H2, StRel X r1 bx' P' σ2 H2 env2 b2 → RxLe (RX X bx1) (RX X bx') := fun bx' P' σ2 H2 s2 => by
            exact ⟨rfl, rfl, rfl, s2.bxf⟩
          cases fl with
          | nxt => exact fun bx' P' σ2 H2 s2 => ⟨hlt, bx', P', env2, b2, nx bx' P' σ2 H2 s2, s2, hl⟩
          | cnt => exact fun bx' P' σ2 H2 s2 => ⟨hlt, bx', P', env2, b2, nx bx' P' σ2 H2 s2, s2, hl⟩
          | brk =>
            simp only [Option.some.injEq] at hl
            subst hl
            exact fun bx' P' σ2 H2 s2 => k bx' P' σ2 H2 (st1.outer s2)
          | ret d =>
            simp only [Option.some.injEq] at hl
            subst hl
            exact k
    · refine .inl ?_
      have e : i = ds.length := by omega
      subst e
      rw [List.drop_length] at hl
      simp only [forLoop, Option.some.injEq] at hl
      subst hl
      exact ⟨hstop, k bxh Ph σ' Hx (st1.outer st)⟩
theorem s_whl {c : CE} {body : List CS} {e : Expr} {sb : List Stmt} {pos : Pos} (hp : PassesOwn (model X.prog X.w) X.A X.env X.xe) (he : SE X cl c e) (hb : SSs X cl W body sb) : SS X cl W (.whl c body) (.While e sb [] pos) := by
  refine ⟨PS.imp (ps_while hp he.ts hb.run) fun D σ H q => ?_⟩
  obtain ⟨r, bx, P, env, bs, x, h, hf, k⟩ := q
  simp only [xs] at hf
  refine ⟨fun m σ' Hx => ∃ bxh Ph envh bh, StRel X r bxh Ph σ' Hx envh bh ∧ whlN (fun e b => M.tru (ev cl c e) b) (sk c) (fun e b => xss cl W body e b) m envh bh = some x, ⟨W, bx, P, env, bs, h, hf⟩, ?_⟩
  rintro m σ' Hx ⟨bxh, Ph, envh, bh, st, hl⟩
  cases m with
  | zero => simp [whlN] at hl
  | succ m =>
    simp only [whlN] at hl
    cases ec : M.tru (ev cl c envh) bh with
    | none => rw [ec] at hl; cases hl
    | some y =>
      obtain ⟨b, b1⟩ := y
      rw [ec] at hl
      refine ⟨bxh, _, envh, bh, b, b1, st.erel (sk c), ec, fun H1 bx1 e1 => ?_⟩
      have st1 := st.eval1 (sk c) e1
      cases b with
      | false =>
        simp only [Option.some.injEq] at hl
        subst hl
        exact (iff_of_eq (if_neg Bool.false_ne_true)).mpr (k _ _ _ _ st1)
      | true =>
        refine (iff_of_eq (if_pos rfl)).mpr ?_
        simp only at hl
        cases ex : xss cl W body (frzE (sk c) envh) b1 with
        | none => rw [ex] at hl; cases hl
        | some z =>
          obtain ⟨fl, env2, b2⟩ := z
          rw [ex] at hl
          refine ⟨fun σ2 H2 => ∃ bx' P', StRel X r bx' P' σ2 H2 env2 b2 ∧ whlN (fun e b => M.tru (ev cl c e) b) (sk c) (fun e b => xss cl W body e b) m env2 b2 = some x, fun σ2 H2 ⟨bx', P', s2, hl2⟩ => ⟨m, Nat.lt_succ_self m, bx', P', env2, b2, s2, hl2⟩, ?_⟩
          refine ⟨r, bx1, _, _, b1, _, st1, ex, ?_⟩
          cases fl with
          | nxt => exact fun bx' P' σ2 H2 s2 => ⟨bx', P', s2, hl⟩
          | cnt => exact fun bx' P' σ2 H2 s2 => ⟨bx', P', s2, hl⟩
          | brk =>
            simp only [Option.some.injEq] at hl
            subst hl
            exact fun bx' P' σ2 H2 s2 => k bx' P' σ2 H2 s2
          | ret d =>
            simp only [Option.some.injEq] at hl
            subst hl
            exact k
end
end En

/-! The engine, part q: more statements: several names, op=, lists in place. -/
namespace En
open PySem PySem.Spec PyProof.Rows L2

/-- values that come one after another, with the new lists among them -/
def NRs (R : Rx) (P : Addr → Prop) (H0 H : Hp) : List Bool → List D → List V → List Addr → Prop
  | f :: fs, d :: ds, vs, A => ∃ v r, vs = v :: r ∧ (if (f && isMut d) = true then ∃ a A', A = a :: A' ∧ v = .ref a ∧ H0 a = none ∧ a ∉ A' ∧ OwnRep R P H d v ∧ NRs R P H0 H fs ds r A' else Rep R P H d v ∧ NRs R P H0 H fs ds r A)
  | _, [], vs, A => vs = [] ∧ A = []
  | [], _ :: _, _, _ => False
theorem NRs.len {R : Rx} {P : Addr → Prop} {H0 H : Hp} : ∀ {fs : List Bool} {ds : List D} {vs : List V} {A : List Addr}, NRs R P H0 H fs ds vs A → ds.length = vs.length
  | f :: fs, d :: ds, vs, A, h => by
    obtain ⟨v, r, rfl, h⟩ := h
    split at h
    · obtain ⟨a, A', rfl, _, _, _, _, h⟩ := h; simp [NRs.len h]
    · simp [NRs.len h.2]
  | _, [], vs, A, h => by cases ‹List Bool› <;> (obtain ⟨rfl, _⟩ := h; rfl)
  | [], _ :: _, _, _, h => h.elim
theorem NRs.mem {R : Rx} {P : Addr → Prop} {H0 H : Hp} : ∀ {fs : List Bool} {ds : List D} {vs : List V} {A : List Addr}, NRs R P H0 H fs ds vs A → ∀ a ∈ A, H0 a = none ∧ ¬InBox R a ∧ ∃ o, H a = some o
  | f :: fs, d :: ds, vs, A, h, a, m => by
    obtain ⟨v, r, rfl, h⟩ := h
    split at h
    · obtain ⟨b, A', rfl, rfl, hb, _, o, h⟩ := h
      rcases List.mem_cons.mp m with e | m
      · subst e; exact ⟨hb, o.nb, o.there⟩
      · exact NRs.mem h a m
    · exact NRs.mem h.2 a m
  | _, [], vs, A, h, a, m => by cases ‹List Bool› <;> (obtain ⟨_, rfl⟩ := h; cases m)
  | [], _ :: _, _, _, h, _, _ => h.elim
theorem NRs.mono {R : Rx} {P P' : Addr → Prop} {H0 H0' H : Hp} (p : ∀ a, P a → P' a) : ∀ {fs : List Bool} {ds : List D} {vs : List V} {A : List Addr}, NRs R P H0 H fs ds vs A → (∀ a ∈ A, H0' a = none) → NRs R P' H0' H fs ds vs A
  | f :: fs, d :: ds, vs, A, h, n => by
    obtain ⟨v, r, rfl, h⟩ := h
    refine ⟨v, r, rfl, ?_⟩
    split at h
    · rename_i c
      rw [if_pos c]
      obtain ⟨b, A', rfl, e, hb, nm, o, h⟩ := h
      exact ⟨b, A', rfl, e, n b (List.mem_cons_self ..), nm, o.mono p, NRs.mono p h fun a m => n a (List.mem_cons_of_mem _ m)⟩
    · rename_i c
      rw [if_neg c]
      exact ⟨Rep.mono (.refl _) p (.refl _ _) _ _ h.1, NRs.mono p h.2 n⟩
  | _, [], vs, A, h, n => by cases ‹List Bool› <;> exact h
  | [], _ :: _, _, _, h, _ => h.elim
def tNs (X : Cx) (S : List Nat) (fs : List Bool) (f : Env → M (List D)) : TA := fun σ H Q => ∃ bx P env bs ds bs', ERel (RX X bx) P S H σ env bs ∧ f env bs = some (ds, bs') ∧
  ∀ vs H' bx' A, EPost (RX X bx) (RX X bx') H H' bs' → NRs (RX X bx') (fun b => Pn (RX X bx') P H b ∧ b ∉ A) H H' fs ds vs A → Q vs H'
structure SAN (X : Cx) (cl : Calls) (cs : CEs) (es : List Expr) : Prop where
  run : PA X es (tNs X (skAs cs) (frs cs) (evs cl cs))
section
variable {X : Cx} {cl : Calls} {W : Nat}
theorem san_nil : SAN X cl .nil [] := by
  refine ⟨PA.imp pa_nil fun σ H Q q => ?_⟩
  obtain ⟨bx, P, env, bs, d, bs', g1, g2, g3⟩ := q
  simp only [evs, pure_def, ret_some] at g2
  obtain ⟨rfl, rfl⟩ := g2
  exact g3 [] H bx [] (.refl g1.box) ⟨rfl, rfl⟩
theorem none_back {R R1 R2 : Rx} {H H1 H2 : Hp} {b1 b2 : BS} (x : EPost R R1 H H1 b1) (y : EPost R1 R2 H1 H2 b2) {a : Addr} (n : H1 a = none) (nb : ¬InBox R2 a) : H a = none := by
  cases q : H a with
  | none => rfl
  | some o =>
    by_cases i : InBox R a
    · exact absurd (y.le.inBox (x.le.inBox i)) nb
    · rw [x.keep a o q i] at n; cases n
theorem san_cons {c : CE} {cs : CEs} {e : Expr} {es : List Expr} (hn : ns e = true) (h : SE X cl c e) (t : SAN X cl cs es) : SAN X cl (.cons c cs) (e :: es) := by
  cases hfr : fr c with
  | false =>
    refine ⟨PA.imp (pa_cons h.full t.run (star_ns hn)) fun σ H Q q => ?_⟩
    obtain ⟨bx, P, env, bs, d, bs', g1, g2, g3⟩ := q
    simp only [evs, bind_def, pure_def, bnd_some, ret_some] at g2
    obtain ⟨x, b1, ex, r, b2, er, rfl, rfl⟩ := g2
    simp only [skAs] at g1
    refine ⟨bx, P, env, bs, x, b1, g1.weak fun i m => List.mem_append_left _ m, ex, fun v1 H1 bx1 e1 r1 => ?_⟩
    refine ⟨bx1, _, env, b1, r, _, (g1.weak fun i m => List.mem_append_right _ m).on e1, er, fun v2 H2 bx2 A e2 r2 => ?_⟩
    refine g3 _ H2 bx2 A (e1.trans e2) ⟨v1, v2, rfl, ?_⟩
    rw [if_neg (by rw [hfr]; simp)]
    have mem := r2.mem
    have nA : ∀ a ∈ A, H a = none := fun a m => none_back e1 e2 (mem a m).1 (mem a m).2.1
    refine ⟨Rep.onP e2 (fun a p => p.2) (fun a o p z => ⟨⟨p.1, e2.notbox z p.2⟩, fun m => ?_⟩) r1 e1.box, r2.mono (fun a p => ⟨Pn.trans e1 e2 a p.1, p.2⟩) nA⟩
    rw [(mem a m).1] at z; cases z
  | true =>
    refine ⟨PA.imp (pa_cons (h.nw hfr) t.run (star_ns hn)) fun σ H Q q => ?_⟩
    obtain ⟨bx, P, env, bs, d, bs', g1, g2, g3⟩ := q
    simp only [evs, bind_def, pure_def, bnd_some, ret_some] at g2
    obtain ⟨x, b1, ex, r, b2, er, rfl, rfl⟩ := g2
    simp only [skAs] at g1
    refine ⟨bx, P, env, bs, x, b1, g1.weak fun i m => List.mem_append_left _ m, ex, fun v1 H1 bx1 e1 r1 => ?_⟩
    by_cases m : isMut x = true
    · obtain ⟨a, rfl, q2, q3⟩ := r1.1 m
      obtain ⟨u, hu⟩ := q3.there
      have nba := q3.nb
      refine ⟨bx1, fun b => Pn (RX X bx1) P H b ∧ b ≠ a, env, b1, r, _, (g1.weak fun i m => List.mem_append_right _ m).onP e1 (fun b o p z => ⟨⟨.inl p, e1.notbox z (g1.nob b p)⟩, fun w => by subst w; rw [q2] at z; cases z⟩) fun b p => p.1.2, er, fun v2 H2 bx2 A e2 r2 => ?_⟩
      have mem := r2.mem
      have nA : ∀ b ∈ A, H b = none := fun b m => none_back e1 e2 (mem b m).1 (mem b m).2.1
      have naA : a ∉ A := fun m => by rw [(mem a m).1] at hu; cases hu
      have e12 := e1.trans e2
      refine g3 _ H2 bx2 (a :: A) e12 ⟨.ref a, v2, rfl, ?_⟩
      rw [if_pos (by rw [hfr, m]; rfl)]
      refine ⟨a, A, rfl, rfl, q2, naA, ?_, r2.mono (fun b p => ?_) nA⟩
      · refine q3.onP e2 (fun b p => p.1.2) (fun b o p z => ⟨⟨p.1.1, e2.notbox z p.1.2⟩, fun w => ?_⟩) e1.box
        rcases List.mem_cons.mp w with w | w
        · exact p.2 w
        · rw [(mem b w).1] at z; cases z
      · obtain ⟨⟨p, n⟩, nb⟩ := p
        refine ⟨⟨?_, n⟩, fun w => ?_⟩
        · rcases p with p | p
          · exact p.1.1
          · exact .inr (none_back e1 e2 p n)
        · rcases List.mem_cons.mp w with w | w
          · subst w
            rcases p with p | p
            · exact p.2 rfl
            · rw [hu] at p; cases p
          · exact nb w
    · have m' : isMut x = false := by simpa using m
      have r1' := r1.2 m'
      refine ⟨bx1, _, env, b1, r, _, (g1.weak fun i m => List.mem_append_right _ m).on e1, er, fun v2 H2 bx2 A e2 r2 => ?_⟩
      refine g3 _ H2 bx2 A (e1.trans e2) ⟨v1, v2, rfl, ?_⟩
      rw [if_neg (by rw [m']; simp)]
      have mem := r2.mem
      have nA : ∀ a ∈ A, H a = none := fun a m => none_back e1 e2 (mem a m).1 (mem a m).2.1
      refine ⟨Rep.onP e2 (fun a p => p.2) (fun a o p z => ⟨⟨p.1, e2.notbox z p.2⟩, fun m => ?_⟩) r1' e1.box, r2.mono (fun a p => ⟨Pn.trans e1 e2 a p.1, p.2⟩) nA⟩
      rw [(mem a m).1] at z; cases z
/-! ### several names at once -/
def setVs : List Nat → List V → L2.St → L2.St
  | i :: is, v :: vs, σ => setVs is vs (σ.set i (some v))
  | _, _, σ => σ
def nms : List CG → Option (List Nat)
  | [] => some []
  | .nm i :: gs => (nms gs).map (i :: ·)
  | _ => none
theorem StRel.sets {r : Rf} {bx : Option (Addr × Addr)} {P : Addr → Prop} {H0 H : Hp} {bs : BS} : ∀ {gs : List CG} {is : List Nat} {ds : List D} {fs : List Bool} {vs : List V} {A : List Addr} {σ : L2.St} {env env1 : Env}, nms gs = some is → bindP gs ds fs env = some env1 →
    StRel X r bx P σ H env bs → NRs (RX X bx) P H0 H fs ds vs A → (∀ a ∈ A, ¬P a ∧ r.H a = none ∧ ∀ (j : Nat) (e : D), env[j]? = some (some (e, true)) → σ[j]? ≠ some (some (.ref a))) → StRel X r bx P (setVs is vs σ) H env1 bs
  | [], is, ds, fs, vs, A, σ, env, env1, hg, hb, st, h, ha => by
    simp only [nms, Option.some.injEq] at hg; subst hg
    cases ds with
    | nil =>
      cases fs with
      | nil => simp only [bindP, Option.some.injEq] at hb; subst hb; simpa only [setVs] using st
      | cons f fs => simp [bindP] at hb
    | cons d ds => simp [bindP] at hb
  | .nm i :: gs, is, ds, fs, vs, A, σ, env, env1, hg, hb, st, h, ha => by
    simp only [nms] at hg
    obtain ⟨is', hg', rfl⟩ := Option.map_eq_some_iff.mp hg
    cases ds with
    | nil => cases fs <;> simp [bindP] at hb
    | cons d ds =>
      cases fs with
      | nil => simp [bindP] at hb
      | cons f fs =>
        simp only [bindP] at hb
        split at hb
        · rename_i hi
          obtain ⟨v, rv, rfl, h⟩ := h
          simp only [setVs]
          split at h
          · rename_i c
            obtain ⟨a, A', rfl, rfl, hb0, nm, o, h⟩ := h
            rw [c] at hb
            obtain ⟨p1, p2, p3⟩ := ha a (List.mem_cons_self ..)
            refine StRel.sets hg' hb (st.setO hi o p1 p2 p3) h fun b m => ?_
            obtain ⟨q1, q2, q3⟩ := ha b (List.mem_cons_of_mem _ m)
            refine ⟨q1, q2, fun j e z => ?_⟩
            by_cases ij : i = j
            · subst ij
              rw [List.getElem?_set_self (Nat.lt_of_lt_of_le hi st.len)]
              intro w; cases w
              exact nm m
            · rw [List.getElem?_set_ne ij] at z ⊢
              exact q3 j e z
          · rename_i c
            have c' : (f && isMut d) = false := by simpa using c
            rw [c'] at hb
            refine StRel.sets hg' hb (st.setF hi h.1) h.2 fun b m => ?_
            obtain ⟨q1, q2, q3⟩ := ha b m
            refine ⟨q1, q2, fun j e z => ?_⟩
            by_cases ij : i = j
            · subst ij
              rw [List.getElem?_set_self hi] at z; cases z
            · rw [List.getElem?_set_ne ij] at z ⊢
              exact q3 j e z
        · cases hb
  | .tp _ :: gs, is, ds, fs, vs, A, σ, env, env1, hg, hb, st, h, ha => by simp [nms] at hg
theorem par_core {gs : List CG} {is : List Nat} {cs : CEs} (hn : nms gs = some is) : ∀ (De : Ends) σ H, tX X (xs cl W (.par gs cs)) De σ H → tNs X (skAs cs) (frs cs) (evs cl cs) σ H fun vs H1 => ∃ ds : List D, ds.length = vs.length ∧ ds.length = is.length ∧ (∀ p o, H1 p = none → De.nx (setVs is vs σ) (upd H1 p (.tup o))) ∧ De.nx (setVs is vs σ) H1 := by
  intro De σ H q
  obtain ⟨r, bx, P, env, bs, x, h, hf, k⟩ := q
  simp only [xs] at hf
  cases e : evs cl cs env bs with
  | none => rw [e] at hf; cases hf
  | some y =>
    rw [e] at hf
    simp only at hf
    cases eb : bindP gs y.1 (frs cs) (frzE (skAs cs) env) with
    | none => rw [eb] at hf; cases hf
    | some env1 =>
      rw [eb] at hf
      simp only [Option.some.injEq] at hf
      subst hf
      refine ⟨bx, _, env, bs, y.1, y.2, h.erel (skAs cs), e, fun vs H1 bx1 A e1 r1 => ?_⟩
      have mem := r1.mem
      have st : StRel X r bx1 (fun b => Pn (RX X bx1) (sunk P (skAs cs) σ env) H b ∧ b ∉ A) σ H1 (frzE (skAs cs) env) y.2 :=
        h.eval (skAs cs) e1 (fun a o p z => ⟨⟨.inl p, e1.notbox z ((h.erel _).nob a p)⟩, fun m => by rw [(mem a m).1] at z; cases z⟩) fun a p => p.1
      have st2 := StRel.sets hn eb st r1 fun a m => by
        obtain ⟨m1, m2, m3⟩ := mem a m
        refine ⟨fun p => p.2 m, none_back h.post e1 m1 m2, fun j e z s => ?_⟩
        obtain ⟨f0, z1, z2, _⟩ := frzE_some z
        rw [(z2 rfl).1] at z1
        obtain ⟨v, s1, _, h2⟩ := h.slot j e true z1
        rw [s] at s1; cases s1
        obtain ⟨u, hu⟩ := (h2 rfl).1.there
        rw [m1] at hu; cases hu
      have lens : ∀ {gs : List CG} {is : List Nat} {ds : List D} {fs : List Bool} {env env1 : Env}, nms gs = some is → bindP gs ds fs env = some env1 → ds.length = is.length := by
        intro gs
        induction gs with
        | nil =>
          intro is ds fs env env1 h1 h2
          simp only [nms, Option.some.injEq] at h1; subst h1
          cases ds with
          | nil => rfl
          | cons d ds => simp [bindP] at h2
        | cons g gs ih =>
          intro is ds fs env env1 h1 h2
          cases g with
          | nm i =>
            simp only [nms] at h1
            obtain ⟨is', h1', rfl⟩ := Option.map_eq_some_iff.mp h1
            cases ds with
            | nil => cases fs <;> simp [bindP] at h2
            | cons d ds =>
              cases fs with
              | nil => simp [bindP] at h2
              | cons f fs =>
                simp only [bindP] at h2
                split at h2
                · simp [ih h1' h2]
                · cases h2
          | tp _ => simp [nms] at h1
      refine ⟨y.1, r1.len, lens hn eb, fun p o hp => k _ _ _ _ (st2.eval [] (EPost.new st2.post.box hp) (fun a o p z => ?_) fun a p => ⟨.inl (.inl p), st2.nob a p⟩), k _ _ _ _ st2⟩
      rcases p with p | ⟨j, d, m, _⟩
      · exact p
      · cases m
theorem s_par2 {i j : Nat} {c1 c2 : CE} {x y : Str} {a b : Expr} {px py pt pos : Pos} {kt k2 pt2} (hc : X.calm = true) (hN : X.N.Nodup) (hi : X.N[i]? = some x) (hj : X.N[j]? = some y) (hij : i ≠ j)
    (hx : X.env.scope.names.lookup x = some .local) (hy : X.env.scope.names.lookup y = some .local) (ha : SAN X cl (.cons c1 (.cons c2 .nil)) [a, b])
    (hw : swappedStores [.Tuple [.Name x px, .Name y py] kt pt] (.Tuple [a, b] k2 pt2) X.env = pure (some [x, y]))
    (hs : swapsWithSole [.Tuple [.Name x px, .Name y py] kt pt] (.Tuple [a, b] k2 pt2) pos.line X.env = pure false) :
    SS X cl W (.par [.nm i, .nm j] (.cons c1 (.cons c2 .nil))) (.Assign [.Tuple [.Name x px, .Name y py] kt pt] (.Tuple [a, b] k2 pt2) pos) := by
  refine ⟨PS.imp (ps_par hc hN hi hj hij hx hy ha.run hw hs) fun D σ H q => ?_⟩
  obtain ⟨bx, P, env, bs, d, bs', g1, g2, g3⟩ := par_core (is := [i, j]) rfl D σ H q
  refine ⟨bx, P, env, bs, d, bs', g1, g2, fun vs H' bx' A e1 r1 => ?_⟩
  obtain ⟨ds, l1, l2, _, q3⟩ := g3 vs H' bx' A e1 r1
  match vs, l1 with
  | [v, w], _ => exact ⟨v, w, rfl, q3⟩
  | [], l1 => simp [l2] at l1
  | [_], l1 => simp [l2] at l1
  | _ :: _ :: _ :: _, l1 => simp [l2] at l1
theorem s_par3 {i j l : Nat} {c1 c2 c3 : CE} {x y z : Str} {a b c : Expr} {px py pz pt pos : Pos} {kt k2 pt2} (hc : X.calm = true) (hN : X.N.Nodup) (hi : X.N[i]? = some x) (hj : X.N[j]? = some y) (hl : X.N[l]? = some z) (hij : i ≠ j) (hil : i ≠ l) (hjl : j ≠ l)
    (hx : X.env.scope.names.lookup x = some .local) (hy : X.env.scope.names.lookup y = some .local) (hz : X.env.scope.names.lookup z = some .local) (ha : SAN X cl (.cons c1 (.cons c2 (.cons c3 .nil))) [a, b, c])
    (hw : swappedStores [.Tuple [.Name x px, .Name y py, .Name z pz] kt pt] (.Tuple [a, b, c] k2 pt2) X.env = pure (some [x, y, z]))
    (hs : swapsWithSole [.Tuple [.Name x px, .Name y py, .Name z pz] kt pt] (.Tuple [a, b, c] k2 pt2) pos.line X.env = pure false) :
    SS X cl W (.par [.nm i, .nm j, .nm l] (.cons c1 (.cons c2 (.cons c3 .nil)))) (.Assign [.Tuple [.Name x px, .Name y py, .Name z pz] kt pt] (.Tuple [a, b, c] k2 pt2) pos) := by
  refine ⟨PS.imp (ps_par3 hc hN hi hj hl hij hil hjl hx hy hz ha.run hw hs) fun D σ H q => ?_⟩
  obtain ⟨bx, P, env, bs, d, bs', g1, g2, g3⟩ := par_core (is := [i, j, l]) rfl D σ H q
  refine ⟨bx, P, env, bs, d, bs', g1, g2, fun vs H' bx' A e1 r1 => ?_⟩
  obtain ⟨ds, l1, l2, _, q3⟩ := g3 vs H' bx' A e1 r1
  match vs, l1 with
  | [u, v, w], _ => exact ⟨u, v, w, rfl, q3⟩
  | [], l1 => simp [l2] at l1
  | [_], l1 => simp [l2] at l1
  | [_, _], l1 => simp [l2] at l1
  | _ :: _ :: _ :: _ :: _, l1 => simp [l2] at l1
/-- names and tuples of names, stored one after another -/
def tPs (X : Cx) (gs : List CG) : TGs := fun vs σ H Q => ∃ r bx P H0 bs ds fs A env env1, StRel X r bx P σ H env bs ∧ NRs (RX X bx) P H0 H fs ds vs A ∧
  (∀ a ∈ A, ¬P a ∧ r.H a = none ∧ ∀ (j : Nat) (e : D), env[j]? = some (some (e, true)) → σ[j]? ≠ some (some (.ref a))) ∧ bindP gs ds fs env = some env1 ∧ ∀ σ1, StRel X r bx P σ1 H env1 bs → Q σ1 H
structure GPs (X : Cx) (gs : List CG) (es : List Expr) : Prop where
  run : PGs X es (tPs X gs)
  len : gs.length = es.length
  ns : es.all ns = true
theorem gp_nil : GPs X [] [] := ⟨PGs.imp pgs_nil fun v σ H Q q => by
  obtain ⟨r, bx, P, H0, bs, ds, fs, A, env, env1, st, hn, ha, hb, k⟩ := q
  cases ds with
  | nil =>
    cases fs with
    | nil =>
      simp only [bindP, Option.some.injEq] at hb; subst hb
      obtain ⟨rfl, _⟩ := hn
      exact ⟨rfl, k σ st⟩
    | cons f fs => simp [bindP] at hb
  | cons d ds => simp [bindP] at hb, rfl, rfl⟩
theorem gp_nm {i : Nat} {gs : List CG} {x : Str} {pos : Pos} {es : List Expr} (hN : X.N.Nodup) (ho : StOk X i x) (h : GPs X gs es) : GPs X (.nm i :: gs) (.Name x pos :: es) := by
  refine ⟨PGs.imp (pgs_cons (pg_name hN ho.ix ho.loc ho.fn) h.run (by rw [asg_ns rfl]; rfl)) fun v σ H Q q => ?_, by simp [h.len], by simp [En.ns, h.ns]⟩
  obtain ⟨r, bx, P, H0, bs, ds, fs, A, env, env1, st, hn, ha, hb, k⟩ := q
  cases ds with
  | nil => cases fs <;> simp [bindP] at hb
  | cons d ds =>
    cases fs with
    | nil => simp [bindP] at hb
    | cons f fs =>
      simp only [bindP] at hb
      split at hb
      · rename_i hi
        obtain ⟨v, rv, rfl, hn⟩ := hn
        refine ⟨v, rv, rfl, ?_⟩
        split at hn
        · rename_i c
          obtain ⟨a, A', rfl, rfl, hb0, nm, o, hn⟩ := hn
          rw [c] at hb
          obtain ⟨p1, p2, p3⟩ := ha a (List.mem_cons_self ..)
          refine ⟨r, bx, P, H0, bs, ds, fs, A', _, env1, st.setO hi o p1 p2 p3, hn, fun b m => ?_, hb, k⟩
          obtain ⟨q1, q2, q3⟩ := ha b (List.mem_cons_of_mem _ m)
          refine ⟨q1, q2, fun j e z => ?_⟩
          by_cases ij : i = j
          · subst ij
            rw [List.getElem?_set_self (Nat.lt_of_lt_of_le hi st.len)]
            intro w; cases w
            exact nm m
          · rw [List.getElem?_set_ne ij] at z ⊢
            exact q3 j e z
        · rename_i c
          have c' : (f && isMut d) = false := by simpa using c
          rw [c'] at hb
          refine ⟨r, bx, P, H0, bs, ds, fs, A, _, env1, st.setF hi hn.1, hn.2, fun b m => ?_, hb, k⟩
          obtain ⟨q1, q2, q3⟩ := ha b m
          refine ⟨q1, q2, fun j e z => ?_⟩
          by_cases ij : i = j
          · subst ij
            rw [List.getElem?_set_self hi] at z; cases z
          · rw [List.getElem?_set_ne ij] at z ⊢
            exact q3 j e z
      · cases hb
theorem gp_tp {g : List CG} {gs : List CG} {e : Expr} {es : List Expr} (hn : En.ns e = true) (ho : PG X e (tGd X (.tp g))) (h : GPs X gs es) : GPs X (.tp g :: gs) (e :: es) := by
  refine ⟨PGs.imp (pgs_cons ho h.run (by rw [asg_ns hn]; rfl)) fun v σ H Q q => ?_, by simp [h.len], by simp [hn, h.ns]⟩
  obtain ⟨r, bx, P, H0, bs, ds, fs, A, env, env1, st, hnr, ha, hb, k⟩ := q
  cases ds with
  | nil => cases fs <;> simp [bindP] at hb
  | cons d ds =>
    cases fs with
    | nil => simp [bindP] at hb
    | cons f fs =>
      simp only [bindP] at hb
      have hm : isMut d = false := by
        cases hm : isMut d with
        | false => rfl
        | true => rw [hm] at hb; cases hb
      rw [hm] at hb
      simp only [Bool.false_eq_true, if_false] at hb
      cases eb : bindG (.tp g) d env with
      | none => rw [eb] at hb; cases hb
      | some env2 =>
        rw [eb] at hb
        obtain ⟨v, rv, rfl, hnr⟩ := hnr
        rw [hm, Bool.and_false] at hnr
        simp only [Bool.false_eq_true, if_false] at hnr
        refine ⟨v, rv, rfl, bx, P, d, env, env2, st.len, hnr.1, eb, fun σ1 bd => ?_⟩
        refine ⟨r, bx, P, H0, bs, ds, fs, A, env2, env1, st.bnd bd, hnr.2, fun b m => ?_, hb, k⟩
        obtain ⟨q1, q2, q3⟩ := ha b m
        refine ⟨q1, q2, fun j e z => ?_⟩
        rcases bd.slot j e true z with ⟨w1, w2⟩ | ⟨w, _⟩
        · rw [w2]; exact q3 j e w1
        · cases w
theorem NRs.updT {R : Rx} {P : Addr → Prop} {H0 H : Hp} {T : Addr} {ys : List V} (hT : H T = none) : ∀ {fs : List Bool} {ds : List D} {vs : List V} {A : List Addr}, NRs R P H0 H fs ds vs A → NRs R P H0 (upd H T (.tup ys)) fs ds vs A
  | f :: fs, d :: ds, vs, A, h => by
    obtain ⟨v, r, rfl, h⟩ := h
    refine ⟨v, r, rfl, ?_⟩
    have rs : ∀ {es : List D} {zs : List V}, Reps R P H es zs → Reps R P (upd H T (.tup ys)) es zs := fun q => Reps.mono (.refl _) (fun _ p => p) (fun a o q _ => by rw [upd_ne (fun z => by rw [z, hT] at q; cases q)]; exact q) _ _ q
    split at h
    · rename_i c
      rw [if_pos c]
      obtain ⟨b, A', rfl, e, hb, nm, o, h⟩ := h
      refine ⟨b, A', rfl, e, hb, nm, ?_, NRs.updT hT h⟩
      subst e
      have ne : b ≠ T := fun z => by obtain ⟨u, hu⟩ := o.there; rw [z, hT] at hu; cases hu
      cases d with
      | lst es =>
        obtain ⟨a, zs, e1, h1, n, h2⟩ := o
        cases e1
        exact ⟨b, zs, rfl, by rw [upd_ne ne]; exact h1, n, rs h2⟩
      | dct ks es =>
        obtain ⟨a, zs, e1, h1, n, h2⟩ := o
        cases e1
        refine ⟨b, zs, rfl, ?_, n, rs h2⟩
        rw [upd_ne ne]; exact h1
      | _ => exact (show False from o).elim
    · rename_i c
      rw [if_neg c]
      exact ⟨h.1.updT hT, NRs.updT hT h.2⟩
  | _, [], vs, A, h => by cases ‹List Bool› <;> exact h
  | [], _ :: _, _, _, h => h.elim
theorem par_pieces {gs : List CG} {cs : CEs} : ∀ (De : Ends) σ H, tX X (xs cl W (.par gs cs)) De σ H → tNs X (skAs cs) (frs cs) (evs cl cs) σ H fun vs H1 => vs.length ≤ sizeLine → ∀ p, H1 p = none → tPs X gs vs σ (upd H1 p (.tup vs)) De.nx := by
  intro De σ H q
  obtain ⟨r, bx, P, env, bs, x, h, hf, k⟩ := q
  simp only [xs] at hf
  cases e : evs cl cs env bs with
  | none => rw [e] at hf; cases hf
  | some y =>
    rw [e] at hf
    simp only at hf
    cases eb : bindP gs y.1 (frs cs) (frzE (skAs cs) env) with
    | none => rw [eb] at hf; cases hf
    | some env1 =>
      rw [eb] at hf
      simp only [Option.some.injEq] at hf
      subst hf
      refine ⟨bx, _, env, bs, y.1, y.2, h.erel (skAs cs), e, fun vs H1 bx1 A e1 r1 => fun _ p hp => ?_⟩
      have mem := r1.mem
      have st : StRel X r bx1 (fun b => Pn (RX X bx1) (sunk P (skAs cs) σ env) H b ∧ b ∉ A) σ H1 (frzE (skAs cs) env) y.2 :=
        h.eval (skAs cs) e1 (fun a o p z => ⟨⟨.inl p, e1.notbox z ((h.erel _).nob a p)⟩, fun m => by rw [(mem a m).1] at z; cases z⟩) fun a p => p.1
      refine ⟨r, bx1, _, H, y.2, y.1, frs cs, A, _, env1, st.eval [] (EPost.new st.post.box hp) (fun a o q z => ?_) (fun a q => ⟨.inl (.inl q), st.nob a q⟩), r1.updT hp, fun a m => ?_, eb, fun σ1 st1 => k _ _ _ _ st1⟩
      · rcases q with q | ⟨j, d, m, _⟩
        · exact q
        · cases m
      · obtain ⟨m1, m2, m3⟩ := mem a m
        refine ⟨fun p => p.2 m, none_back h.post e1 m1 m2, fun j e z s => ?_⟩
        have z : (frzE (skAs cs) env)[j]? = some (some (e, true)) := z
        obtain ⟨f0, z1, z2, _⟩ := frzE_some z
        rw [(z2 rfl).1] at z1
        obtain ⟨v, s1, _, h2⟩ := h.slot j e true z1
        rw [s] at s1; cases s1
        obtain ⟨u, hu⟩ := (h2 rfl).1.there
        rw [m1] at hu; cases hu
theorem s_parT {gs : List CG} {cs : CEs} {ts es : List Expr} {kt k2 : Nat} {pt pt2 pos : Pos} (hc : X.calm = true) (hg : GPs X gs ts) (hz : ts.length ≤ 1000) (hl : es.length = ts.length) (hle : cs.len = es.length) (ha : SAN X cl cs es)
    (hw : swappedStores [.Tuple ts kt pt] (.Tuple es k2 pt2) X.env = pure none) (hs : swapsWithSole [.Tuple ts kt pt] (.Tuple es k2 pt2) pos.line X.env = pure false) :
    SS X cl W (.par gs cs) (.Assign [.Tuple ts kt pt] (.Tuple es k2 pt2) pos) := by
  refine ⟨PS.imp (ps_asg (pe_tup ha.run) (pg_tup hc hg.run (asg_len hg.ns).1 (asg_len hg.ns).2) hs hw (by rw [asg_ns rfl]; rfl)) fun D σ H q => ?_⟩
  obtain ⟨bx, P, env, bs, d, bs', g1, g2, g3⟩ := par_pieces D σ H q
  refine ⟨bx, P, env, bs, d, bs', g1, g2, fun vs H' bx' A e1 r1 => ?_⟩
  have hlen : vs.length = ts.length := by rw [← r1.len, evs_len g2, hle, hl]
  have hsl := sizeLine_eq
  have hv : vs.length ≤ sizeLine := by omega
  exact ⟨hv, fun p hp => ⟨p, vs, rfl, .of upd_same, hlen, g3 vs H' bx' A e1 r1 hv p hp⟩⟩
/-! ### name op= e -/
def ipD (op : Operator) : TIp := fun x y H Q => ∃ i j z, x = .int i ∧ y = .int j ∧ augD op (.int i) (.int j) = some (.int z) ∧ Q (.int z) H
theorem augD_int {op : Operator} {x y z : D} (h : augD op x y = some z) : ∃ i j k, x = .int i ∧ y = .int j ∧ z = .int k := by
  cases op <;> simp only [augD] at h <;> first
    | (cases h; done)
    | (cases x <;> first
        | (cases h; done)
        | (cases y <;> first
            | (cases h; done)
            | (simp only [Option.some.injEq] at h; exact ⟨_, _, _, rfl, rfl, h.symm⟩)
            | (simp only at h; split at h
               · simp only [Option.some.injEq] at h; exact ⟨_, _, _, rfl, rfl, h.symm⟩
               · cases h)))
theorem ipd (op : Operator) : PIp X op (ipD op) := by
  intro pins s σ H x y v u Q I r1 r2 h
  obtain ⟨i, j, z, rfl, rfl, e, q⟩ := h
  unfold augD at e
  cases op with
  | Add => simp only [Option.some.injEq, D.int.injEq] at e; subst e; exact iop_add pins s σ H _ _ v u Q I r1 r2 ⟨i, j, rfl, rfl, q⟩
  | Sub => simp only [Option.some.injEq, D.int.injEq] at e; subst e; exact iop_sub pins s σ H _ _ v u Q I r1 r2 ⟨i, j, rfl, rfl, q⟩
  | Mult =>
    simp only at e
    split at e
    · rename_i c; simp only [Option.some.injEq, D.int.injEq] at e; subst e; exact iop_mul pins s σ H _ _ v u Q I r1 r2 ⟨i, j, rfl, rfl, c, q⟩
    · cases e
  | FloorDiv =>
    simp only at e
    split at e
    · rename_i c; simp only [Option.some.injEq, D.int.injEq] at e; subst e; exact iop_fdiv pins s σ H _ _ v u Q I r1 r2 ⟨i, j, rfl, rfl, c, q⟩
    · cases e
  | Mod =>
    simp only at e
    split at e
    · rename_i c; simp only [Option.some.injEq, D.int.injEq] at e; subst e; exact iop_mod pins s σ H _ _ v u Q I r1 r2 ⟨i, j, rfl, rfl, c, q⟩
    · cases e
  | _ => cases e
theorem s_aug {i : Nat} {op : Operator} {c : CE} {x : Str} {e : Expr} {pos pos' : Pos} (hN : X.N.Nodup) (ho : StOk X i x) (he : SE X cl c e) : SS X cl W (.aug i op c) (.AugAssign (.Name x pos') op e pos) := by
  refine ⟨PS.imp (ps_aug hN ho.ix ho.loc he.lk (ipd op) ho.fn) fun D σ H q => ?_⟩
  obtain ⟨r, bx, P, env, bs, y, h, hf, k⟩ := q
  simp only [xs] at hf
  cases e1 : env.get i with
  | none => rw [e1] at hf; cases hf
  | some x0 =>
    rw [e1] at hf
    simp only at hf
    cases e2 : ev cl c env bs with
    | none => rw [e2] at hf; cases hf
    | some yy =>
      rw [e2] at hf
      simp only at hf
      cases e3 : augD op x0 yy.1 with
      | none => rw [e3] at hf; cases hf
      | some z =>
        rw [e3] at hf
        simp only at hf
        split at hf
        · rename_i hi
          simp only [Option.some.injEq] at hf
          subst hf
          obtain ⟨a, b, c', rfl, hy, rfl⟩ := augD_int e3
          unfold Env.get at e1
          split at e1
          · rename_i d' f ee
            cases e1
            obtain ⟨v, s1, s2, s3⟩ := h.slot i _ f ee
            have hv : v = .int a := by
              cases f with
              | false => have := s2 rfl; simpa only [Rep] using this
              | true => exact ((s3 rfl).1 : False).elim
            subst hv
            refine ⟨.int a, s1, bx, _, env, bs, yy.1, yy.2, h.erel (sk c), e2, fun v2 H1 bx1 ep r1 => ?_⟩
            rw [hy] at r1 e3
            refine ⟨a, b, c', rfl, r1.int_, e3, ?_⟩
            have st := (h.eval1 (sk c) ep).setF (d := .int c') (v := .int c') (by rw [frzE_length]; exact hi) (by simp only [Rep])
            exact k _ _ _ _ st
          · cases e1
        · cases hf
/-! ### lists in place -/
theorem ownAt_of {env : Env} {i : Nat} {d : D} (h : ownAt env i = some d) : env[i]? = some (some (d, true)) := by
  unfold ownAt at h
  split at h
  · rename_i e; cases h; exact e
  · cases h
theorem StRel.own {r : Rf} {bx : Option (Addr × Addr)} {P : Addr → Prop} {σ : L2.St} {H : Hp} {env : Env} {bs : BS} (h : StRel X r bx P σ H env bs) {i : Nat} {ds : List D} (e : ownAt env i = some (.lst ds)) :
    ∃ a ys, σ[i]? = some (some (.ref a)) ∧ H a = some (.lst ys) ∧ Reps (RX X bx) P H ds ys := by
  obtain ⟨v, e1, _, h2⟩ := h.slot i _ true (ownAt_of e)
  obtain ⟨a, ys, rfl, q1, _, q2⟩ := (h2 rfl).1
  exact ⟨a, ys, e1, q1, q2⟩
theorem putIx_of {x k v x' : D} (h : putIx x k v = some x') : ∃ ds n j, x = .lst ds ∧ k = .int n ∧ ixN ds.length n = some j ∧ x' = .lst (ds.set j v) := by
  unfold putIx at h
  split at h
  · split at h
    · obtain ⟨j, hj, rfl⟩ := Option.map_eq_some_iff.mp h
      exact ⟨_, _, j, rfl, rfl, hj, rfl⟩
    · cases h
  · cases h
  · cases h
/-- a name that is read -/
structure RdOk (X : Cx) (i : Nat) (x : Str) : Prop where
  ix : X.N[i]? = some x
  vis : Vis X.env.scope x
  d1 : (x == ("__debug__" : Str)) = false
  d2 : (x == ("__classdict__" : Str)) = false
theorem putX_of {x k v x' : D} (h : putX x k v = some x') : (∃ ds n j, x = .lst ds ∧ k = .int n ∧ ixN ds.length n = some j ∧ x' = .lst (ds.set j v)) ∨ ∃ ks vs, x = .dct ks vs ∧ sameK k ks = true ∧ ks.length < sizeLine ∧ x' = .dct (putD k v ks vs).1 (putD k v ks vs).2 := by
  unfold putX at h
  split at h
  · split at h
    · rename_i hz
      simp only [Bool.and_eq_true, decide_eq_true_eq] at hz
      simp only [Option.some.injEq] at h
      exact .inr ⟨_, _, rfl, hz.1, hz.2, h.symm⟩
    · cases h
  · exact .inl (putIx_of h)
/-- a[k] = v, of a list, of a dict -/
def tsetX : TSet := fun x y z H Q => rSetL x y z H Q ∨ ∃ a, x = .ref a ∧ ((∃ (i : Int) (kvs : List (Key × V)), y = .int i ∧ (H a = some (.dK kvs) ∨ (kvs = [] ∧ H a = some (.dT []))) ∧ kvs.length < sizeLine ∧ ((kvs.map (·.1)).Nodup → Q (upd H a (.dK (putK kvs (.inl i) z))))) ∨
  ∃ (b : Addr) (k : List Key) (kvs : List (List Key × V)), y = .ref b ∧ H b = some (.tup (k.map kV)) ∧ (H a = some (.dT kvs) ∨ (kvs = [] ∧ H a = some (.dK []))) ∧ kvs.length < sizeLine ∧ ((kvs.map (·.1)).Nodup → Q (upd H a (.dT (putK kvs k z)))))
theorem upd_two {H : Hp} {a : Addr} {o o' : HO} : upd (upd H a o) a o' = upd H a o' := by
  funext b
  by_cases e : b = a
  · subst e; rw [upd_same, upd_same]
  · rw [upd_ne e, upd_ne e, upd_ne e]
theorem kt_keys {H : Hp} : ∀ {kvs : List (List Key × V)} {xs : List (List Key × Addr × Value)}, KT H kvs xs → kvs.map (·.1) = xs.map (·.1)
  | _, _, .nil => rfl
  | _, _, .cons h t => by rw [List.map_cons, List.map_cons, h.1, kt_keys t]
theorem set_any (hu : X.A.units + 65 < cLine) : PSet X tsetX := by
  intro pins s σ H o i v ov iv u Q I ro ri rv h
  rcases h with h | ⟨a, rfl, h⟩
  · exact set_list pins s σ H o i v ov iv u Q I ro ri rv h
  cases ro
  rcases h with ⟨n, kvs, rfl, hH, hl, q⟩ | ⟨b, k, kvs, rfl, hb, hH, hl, q⟩
  · rcases hH with hH | ⟨rfl, hH⟩
    · obtain ⟨z, hd, vs, rel, dd⟩ := dk_of I.hok hH
      have nd : (kvs.map (·.1)).Nodup := by rw [rel.keys]; obtain ⟨_, _, _, _, _, _, _, _, nd⟩ := dd; exact nd
      exact d_setItem (by omega) I (DPut.k (k := .inl n) hH hl) ri rv fun s' I' => ⟨_, I', q nd⟩
    · refine d_setItem (by omega) (emptyK I hH) (DPut.k (k := .inl n) upd_same hl) ri rv fun s' I' => ⟨_, I', ?_⟩
      rw [upd_two]
      exact q List.nodup_nil
  · rcases hH with hH | ⟨rfl, hH⟩
    · obtain ⟨z, hd, xs, rel, dd⟩ := dt_of I.hok hH
      have nd : (kvs.map (·.1)).Nodup := by rw [kt_keys rel]; obtain ⟨_, _, _, _, _, _, _, _, nd⟩ := dd; exact nd
      exact d_setItem (by omega) I (DPut.t hH hb hl) ri rv fun s' I' => ⟨_, I', q nd⟩
    · have hne : b ≠ a := fun z => by rw [z, hH] at hb; cases hb
      refine d_setItem (by omega) (emptyT I hH) (DPut.t (k := k) upd_same (by rw [upd_ne hne]; exact hb) hl) ri rv fun s' I' => ⟨_, I', ?_⟩
      rw [upd_two]
      exact q List.nodup_nil
theorem Rep.writeO {R : Rx} {P : Addr → Prop} {H : Hp} {p : Addr} {o o' : HO} {d : D} {v : V} (hp : H p = some o) (n1 : ∀ xs, o ≠ .tup xs) (n2 : ∀ ob u, o ≠ .frz ob u) (np : ∀ a, P a → a ≠ p) (h : Rep R P H d v) : Rep R P (upd H p o') d v := by
  obtain ⟨x, r, e, hx, _⟩ := (Reps.writeO (o' := o') hp n1 n2 np (Reps.cons h .nil)).inv
  cases e
  exact hx
def DObj (o : HO) (ks : List D) (xs : List V) : Prop := (∃ kvs : List (Key × V), o = .dK kvs ∧ ks.map keyD = kvs.map (fun kv => some kv.1) ∧ xs = kvs.map (·.2)) ∨
  ∃ kvs : List (List Key × V), o = .dT kvs ∧ ks.map kT = kvs.map (fun kv => some kv.1) ∧ xs = kvs.map (·.2)
theorem DObj.notup {o : HO} {ks : List D} {xs : List V} (h : DObj o ks xs) : (∀ ys, o ≠ .tup ys) ∧ ∀ ob u, o ≠ .frz ob u := by
  rcases h with ⟨kvs, rfl, _⟩ | ⟨kvs, rfl, _⟩ <;> exact ⟨fun _ z => (by cases z), fun _ _ z => (by cases z)⟩
theorem StRel.writeD {r : Rf} {bx : Option (Addr × Addr)} {P : Addr → Prop} {σ : L2.St} {H : Hp} {env : Env} {bs : BS} (h : StRel X r bx P σ H env bs) {i : Nat} {ks ds ks' ds' : List D} {a : Addr} {ys : List V} {o : HO} (hi : env[i]? = some (some (.dct ks ds, true))) (hs : σ[i]? = some (some (.ref a))) (hr : Reps (RX X bx) P H ds' ys) (ho : DObj o ks' ys) :
    StRel X r bx P σ (upd H a o) (env.set i (some (.dct ks' ds', true))) bs := by
  obtain ⟨v, e1, _, h2⟩ := h.slot i _ true hi
  rw [hs] at e1
  cases e1
  obtain ⟨⟨a', xs, e2, hx0, nb, _⟩, h3⟩ := h2 rfl
  cases e2
  obtain ⟨np, hn⟩ := h3 a rfl
  obtain ⟨o0, hx, ho0⟩ : ∃ o0, H a = some o0 ∧ DObj o0 ks xs := by
    rcases hx0 with ⟨kvs, q, q2⟩ | ⟨kvs, q, q2⟩
    · exact ⟨_, q, .inl ⟨kvs, rfl, q2⟩⟩
    · exact ⟨_, q, .inr ⟨kvs, rfl, q2⟩⟩
  have nt := ho0.notup
  have npa : ∀ b, P b → b ≠ a := fun b p z => np (z ▸ p)
  have hlt : i < env.length := by
    obtain ⟨q, _⟩ := List.getElem?_eq_some_iff.mp hi; exact q
  refine ⟨h.post.write hn nb, h.sub, fun j d f z => ?_, fun j k d1 d2 b z1 z2 s1 s2 => ?_, by simp only [List.length_set]; exact h.len, h.frz, fun b o z c => ?_, h.bxf⟩
  · by_cases e : i = j
    · subst e
      rw [List.getElem?_set_self hlt] at z
      cases z
      refine ⟨_, hs, fun w => (by cases w), fun _ => ⟨⟨a, ys, rfl, ?_, nb, hr.writeO hx nt.1 nt.2 npa⟩, fun b w => by cases w; exact ⟨np, hn⟩⟩⟩
      rcases ho with ⟨kvs, rfl, q⟩ | ⟨kvs, rfl, q⟩
      · exact .inl ⟨kvs, upd_same, q⟩
      · exact .inr ⟨kvs, upd_same, q⟩
    · rw [List.getElem?_set_ne e] at z
      obtain ⟨v, q1, q2, q3⟩ := h.slot j d f z
      refine ⟨v, q1, fun w => (q2 w).writeO hx nt.1 nt.2 npa, fun w => ⟨?_, (q3 w).2⟩⟩
      subst w
      have o := (q3 rfl).1
      have ne : ∀ b, v = .ref b → b ≠ a := fun b w z2 => by
        subst w z2
        exact e (h.dist i j _ _ _ hi z hs q1)
      cases d with
      | lst es =>
        obtain ⟨b, zs, w, w1, w2, w3⟩ := o
        exact ⟨b, zs, w, by rw [upd_ne (ne b w)]; exact w1, w2, w3.writeO hx nt.1 nt.2 npa⟩
      | dct ks es =>
        obtain ⟨b, zs, w, w1, w2, w3⟩ := o
        refine ⟨b, zs, w, ?_, w2, w3.writeO hx nt.1 nt.2 npa⟩
        rw [upd_ne (ne b w)]
        exact w1
      | _ => exact (show False from o).elim
  · have own : ∀ {j : Nat} {d : D}, (env.set i (some (.dct ks' ds', true)))[j]? = some (some (d, true)) → ∃ d', env[j]? = some (some (d', true)) := fun {j d} z => by
      by_cases e : i = j
      · subst e; exact ⟨_, hi⟩
      · rw [List.getElem?_set_ne e] at z; exact ⟨d, z⟩
    obtain ⟨d3, z3⟩ := own z1
    obtain ⟨d4, z4⟩ := own z2
    exact h.dist j k d3 d4 b z3 z4 s1 s2
  · have q := h.fext b o z c
    rw [upd_ne (fun w => ?_)]
    · exact q
    · subst w
      rw [hx] at q
      cases q
      rcases c with c | ⟨zs, c⟩ | ⟨ob, u, c⟩
      · exact np (h.frz _ _ c z)
      · exact nt.1 _ c
      · exact nt.2 _ _ c
theorem StRel.ownD {r : Rf} {bx : Option (Addr × Addr)} {P : Addr → Prop} {σ : L2.St} {H : Hp} {env : Env} {bs : BS} (h : StRel X r bx P σ H env bs) {i : Nat} {ks ds : List D} (e : ownAt env i = some (.dct ks ds)) :
    ∃ a o ys, σ[i]? = some (some (.ref a)) ∧ H a = some o ∧ DObj o ks ys ∧ Reps (RX X bx) P H ds ys := by
  obtain ⟨v, e1, _, h2⟩ := h.slot i _ true (ownAt_of e)
  obtain ⟨a, ys, rfl, q1, _, q2⟩ := (h2 rfl).1
  rcases q1 with ⟨kvs, q, q3⟩ | ⟨kvs, q, q3⟩
  · exact ⟨a, _, ys, e1, q, .inl ⟨kvs, rfl, q3⟩, q2⟩
  · exact ⟨a, _, ys, e1, q, .inr ⟨kvs, rfl, q3⟩, q2⟩
theorem all_flat {ks : List D} {kvs : List (Key × V)} (e2 : ks.map keyD = kvs.map (fun kv => some kv.1)) (h : ks.all isTupD = true) : ks = [] ∧ kvs = [] := by
  cases ks with
  | nil => cases kvs with
    | nil => exact ⟨rfl, rfl⟩
    | cons _ _ => simp at e2
  | cons k1 ks =>
    simp only [List.all_cons, Bool.and_eq_true] at h
    cases kvs with
    | nil => simp at e2
    | cons kv kvs =>
      simp only [List.map_cons, List.cons.injEq] at e2
      cases k1 with
      | tup j => simp [keyD] at e2
      | _ => simp [isTupD] at h
theorem all_tup {ks : List D} {kvs : List (List Key × V)} (e2 : ks.map kT = kvs.map (fun kv => some kv.1)) (h : ks.all isIntD = true) : ks = [] ∧ kvs = [] := by
  cases ks with
  | nil => cases kvs with
    | nil => exact ⟨rfl, rfl⟩
    | cons _ _ => simp at e2
  | cons k1 ks =>
    simp only [List.all_cons, Bool.and_eq_true] at h
    cases kvs with
    | nil => simp at e2
    | cons kv kvs =>
      simp only [List.map_cons, List.cons.injEq] at e2
      cases k1 with
      | tup j => simp [isIntD] at h
      | _ => simp [kT] at e2
theorem s_stIx (hu : X.A.units + 65 < cLine) {i : Nat} {ck c : CE} {x : Str} {ek e : Expr} {px tp pos : Pos} (ho : RdOk X i x) (hk : SE X cl ck ek) (he : SE X cl c e)
    (hs : swapsWithSole [.Subscript (.Name x px) ek tp] e pos.line X.env = pure false) (hw : swappedStores [.Subscript (.Name x px) ek tp] e X.env = pure none)
    (hsub : ∀ v, assign (.Subscript (.Name x px) ek tp) X.env v = (do
      let ov ← holding [v] (eval (.Name x px) X.env)
      let iv ← holding [v, ov] (eval ek X.env)
      standAt tp
      holding [v, ov, iv] (setItem ov iv v)
      release [v, ov, iv] [])) : SS X cl W (.stIx i ck c) (.Assign [.Subscript (.Name x px) ek tp] e pos) := by
  refine ⟨PS.imp (ps_asg he.full (pg_sub (pe_var ho.ix ho.vis ho.d1 ho.d2) hk.lk (set_any hu) hsub) hs hw (by rw [asg_ns rfl]; rfl)) fun D σ H q => ?_⟩
  obtain ⟨r, bx, P, env, bs, y, h, hf, k⟩ := q
  simp only [xs] at hf
  cases e1 : ev cl c env bs with
  | none => rw [e1] at hf; cases hf
  | some y1 =>
    obtain ⟨v, b1⟩ := y1
    rw [e1] at hf
    simp only at hf
    cases e2 : ev cl ck env b1 with
    | none => rw [e2] at hf; cases hf
    | some y2 =>
      obtain ⟨kd, b2⟩ := y2
      rw [e2] at hf
      simp only at hf
      cases e3 : ownAt (frzE (skA c ++ sk ck) env) i with
      | none => rw [e3] at hf; cases hf
      | some x0 =>
        rw [e3] at hf
        simp only at hf
        cases e4 : putX x0 kd v with
        | none => rw [e4] at hf; cases hf
        | some x1 =>
          rw [e4] at hf
          simp only [Option.some.injEq] at hf
          subst hf
          have er := h.erel (skA c ++ sk ck)
          refine ⟨bx, _, env, bs, v, b1, er.weak fun i m => List.mem_append_left _ m, e1, fun vv H1 bx1 ep1 r1 => ?_⟩
          obtain ⟨f0, z1, z2, _⟩ := frzE_some (ownAt_of e3)
          rw [(z2 rfl).1] at z1
          obtain ⟨va, s1, _, _⟩ := h.slot i _ true z1
          refine ⟨va, s1, bx1, _, env, b1, kd, b2, (er.weak fun i m => List.mem_append_right _ m).on ep1, e2, fun v2 H2 bx2 ep2 r2 => ?_⟩
          have st := h.eval1 (skA c ++ sk ck) (ep1.trans ep2)
          have rv := (Pn.of ep2 (fun a p => p.2) r1 ep1.box).back ep1 ep2
          rcases putX_of e4 with ⟨ds, n, j, rfl, rfl, hj, rfl⟩ | ⟨ks, vs, rfl, hsk, hlen, rfl⟩
          · obtain ⟨a, ys, s2, hy, ry⟩ := st.own e3
            rw [s1] at s2
            cases s2
            refine .inl ⟨a, ys, n, j, rfl, r2.int_, hy, by rw [← ry.length]; exact hj, ?_⟩
            exact k _ _ _ _ (st.write (ownAt_of e3) s1 (ry.set rv j))
          · obtain ⟨a, o, ys, s2, hy, hd, ry⟩ := st.ownD e3
            rw [s1] at s2
            cases s2
            refine .inr ⟨a, rfl, ?_⟩
            cases kd with
            | int n =>
              simp only [sameK] at hsk
              rcases hd with ⟨kvs, rfl, q1, q2⟩ | ⟨kvs, rfl, q1, q2⟩
              · subst q2
                have hl := congrArg List.length q1
                simp only [List.length_map] at hl
                refine .inl ⟨n, kvs, r2.int_, .inl hy, by omega, fun nd => ?_⟩
                obtain ⟨p1, p2⟩ := putKI (i := n) rv nd q1 ry
                exact k _ _ _ _ (st.writeD (ownAt_of e3) s1 p2 (.inl ⟨_, rfl, p1, rfl⟩))
              · obtain ⟨rfl, rfl⟩ := all_tup q1 hsk
                subst q2
                have hv0 : vs = [] := List.eq_nil_of_length_eq_zero (by rw [ry.length]; rfl)
                subst hv0
                refine .inl ⟨n, [], r2.int_, .inr ⟨rfl, hy⟩, hlen, fun nd => ?_⟩
                obtain ⟨p1, p2⟩ := putKI (i := n) (ks := []) (kvs := []) rv nd rfl ry
                exact k _ _ _ _ (st.writeD (ownAt_of e3) s1 p2 (.inl ⟨_, rfl, p1, rfl⟩))
            | tup es =>
              simp only [sameK, Bool.and_eq_true] at hsk
              obtain ⟨hs0, hsk⟩ := hsk
              obtain ⟨k0, hk0⟩ := Option.isSome_iff_exists.mp hs0
              obtain ⟨b1', zs, hx, hb1, rb1⟩ := r2.tupH
              have hzs := keys_vals hk0 rb1
              subst hzs
              rcases hd with ⟨kvs, rfl, q1, q2⟩ | ⟨kvs, rfl, q1, q2⟩
              · obtain ⟨rfl, rfl⟩ := all_flat q1 hsk
                subst q2
                have hv0 : vs = [] := List.eq_nil_of_length_eq_zero (by rw [ry.length]; rfl)
                subst hv0
                refine .inr ⟨b1', k0, [], hx, hb1, .inr ⟨rfl, hy⟩, hlen, fun nd => ?_⟩
                obtain ⟨p1, p2⟩ := putT hk0 (ks := []) (kvs := []) rv nd rfl ry
                exact k _ _ _ _ (st.writeD (ownAt_of e3) s1 p2 (.inr ⟨_, rfl, p1, rfl⟩))
              · subst q2
                have hl := congrArg List.length q1
                simp only [List.length_map] at hl
                refine .inr ⟨b1', k0, kvs, hx, hb1, .inl hy, by omega, fun nd => ?_⟩
                obtain ⟨p1, p2⟩ := putT hk0 rv nd q1 ry
                exact k _ _ _ _ (st.writeD (ownAt_of e3) s1 p2 (.inr ⟨_, rfl, p1, rfl⟩))
            | _ => simp [sameK] at hsk
def tgetL (X : Cx) : V → V → Hp → VK → Prop := fun x y H Q => ∃ a xs i z, x = .ref a ∧ y = .int i ∧ H a = some (.lst xs) ∧ L2.atI xs i = some z ∧ Q z H
theorem get_list : PGet X (tgetL X) := by
  intro pins s σ H o i ov iv Q I ro ri h
  obtain ⟨a, xs, n, z, rfl, rfl, ha, hz, q⟩ := h
  cases ro
  obtain ⟨t, rfl⟩ := ri
  obtain ⟨its, r, pl, hsz⟩ := I.list (.inl (.inl ha))
  obtain ⟨j, h1, h2, h3, h4, h5⟩ := atI_get hz
  obtain ⟨w, ew, rw'⟩ := r.get h2
  have hl := r.length
  have hn := line63
  have fin : EP X pins σ Q w s := ⟨z, H, I, rw', q⟩
  by_cases h0 : 0 ≤ n
  · have hj : n.toNat = j := by
      rw [seqIndex_of h0 h5] at h1
      exact Option.some.inj h1
    exact wpAny_getItem_list pl.isList h0 (by omega) (by rw [hj]; simpa using ew) fin
  · have hj : (n + (its.toArray.size : Int)).toNat = j := by
      rw [seqIndex_neg (by omega) h4] at h1
      rw [List.size_toArray, ← hl]
      exact Option.some.inj h1
    exact wpAny_getItem_list_neg pl.isList (by omega) (by rw [List.size_toArray] <;> omega) (by omega) (by rw [hj]; simpa using ew) fin
theorem idxD_lst {ds : List D} {k old : D} (h : idxD (.lst ds) k = some old) : ∃ n, k = .int n ∧ L2.atI ds n = some old := by
  cases k with
  | int n => exact ⟨n, rfl, by simpa only [idxD] using h⟩
  | _ => simp [idxD] at h
theorem s_augIx {i : Nat} {op : Operator} {ck c : CE} {x : Str} {ek e : Expr} {px tp pos : Pos} (ho : RdOk X i x) (hk : SE X cl ck ek) (he : SE X cl c e)
    (ha : ∀ ov iv new, augStore ek ov iv new = (do holding [new, ov, iv] (setItem ov iv new); release [new, ov, iv] []; pure .next)) : SS X cl W (.augIx i op ck c) (.AugAssign (.Subscript (.Name x px) ek tp) op e pos) := by
  refine ⟨PS.imp (ps_augS (pe_var ho.ix ho.vis ho.d1 ho.d2) hk.lk get_list he.lk (ipd op) set_list ha) fun D σ H q => ?_⟩
  obtain ⟨r, bx, P, env, bs, y, h, hf, k⟩ := q
  simp only [xs] at hf
  cases e1 : ev cl ck env bs with
  | none => rw [e1] at hf; cases hf
  | some y1 =>
    obtain ⟨kd, b1⟩ := y1
    rw [e1] at hf
    simp only at hf
    cases e3 : ownAt (frzE (sk ck ++ sk c) env) i with
    | none => rw [e3] at hf; cases hf
    | some x0 =>
      rw [e3] at hf
      simp only at hf
      cases e5 : idxD x0 kd with
      | none => rw [e5] at hf; cases hf
      | some old =>
        rw [e5] at hf
        simp only at hf
        cases e2 : ev cl c env b1 with
        | none => rw [e2] at hf; cases hf
        | some y2 =>
          obtain ⟨v, b2⟩ := y2
          rw [e2] at hf
          simp only at hf
          cases e6 : augD op old v with
          | none => rw [e6] at hf; cases hf
          | some z =>
            rw [e6] at hf
            simp only at hf
            cases e4 : putIx x0 kd z with
            | none => rw [e4] at hf; cases hf
            | some x1 =>
              rw [e4] at hf
              simp only [Option.some.injEq] at hf
              subst hf
              obtain ⟨ds, n, j, rfl, rfl, hj, rfl⟩ := putIx_of e4
              obtain ⟨i1, i2, i3, rfl, rfl, rfl⟩ := augD_int e6
              obtain ⟨_, e7, hat⟩ := idxD_lst e5
              cases e7
              have er := h.erel (sk ck ++ sk c)
              obtain ⟨f0, z1, z2, _⟩ := frzE_some (ownAt_of e3)
              rw [(z2 rfl).1] at z1
              obtain ⟨va, s1, _, _⟩ := h.slot i _ true z1
              refine ⟨va, s1, bx, _, env, bs, .int n, b1, er.weak fun i m => List.mem_append_left _ m, e1, fun v1 H1 bx1 ep1 r1 => ?_⟩
              have st1 := h.eval1 (sk ck ++ sk c) ep1
              obtain ⟨a, ys, s2, hy, ry⟩ := st1.own e3
              rw [s1] at s2
              cases s2
              obtain ⟨zv, hz, rz⟩ := ry.atI hat
              simp only [Rep] at rz
              subst rz
              refine ⟨a, ys, n, _, rfl, r1.int_, hy, hz, bx1, _, env, b1, .int i2, b2, (er.weak fun i m => List.mem_append_right _ m).on ep1, e2, fun v2 H2 bx2 ep2 r2 => ?_⟩
              have st := h.eval1 (sk ck ++ sk c) (ep1.trans ep2)
              obtain ⟨a', ys', s3, hy', ry'⟩ := st.own e3
              rw [s1] at s3
              cases s3
              refine ⟨i1, i2, i3, rfl, r2.int_, e6, a, ys', n, j, rfl, r1.int_, hy', by rw [← ry'.length]; exact hj, ?_⟩
              exact k _ _ _ _ (st.write (ownAt_of e3) s1 (ry'.set (d := .int i3) (x := .int i3) (by simp only [Rep]) j))
/-- xs.append(e) -/
theorem s_app {i : Nat} {c : CE} {x : Str} {e : Expr} {px ap cp pos : Pos} (ho : RdOk X i x) (he : SE X cl c e) (hn : ns e = true)
    (hbase : attributeBase (.Name x px) "append" X.env (eval (.Name x px) X.env) = eval (.Name x px) X.env) (hline : (ap.endLine == cp.line) = true) :
    SS X cl W (.app i c) (.Expr (.Call (.Attribute (.Name x px) "append" ap) [e] [] cp) pos) := by
  have hA := pa_cons he.full pa_nil (star_ns hn)
  refine ⟨PS.imp (ps_expr (pe_bm F.plainAttrs_list F.slot_list_append F.type_list_append mt_append (pe_var ho.ix ho.vis ho.d1 ho.d2) hA hbase (by rw [star_ns hn]; rfl) hline (star_ns hn) rfl) rfl) fun D σ H q => ?_⟩
  obtain ⟨r, bx, P, env, bs, y, h, hf, k⟩ := q
  simp only [xs] at hf
  cases e1 : ev cl c env bs with
  | none => rw [e1] at hf; cases hf
  | some y1 =>
    obtain ⟨v, b1⟩ := y1
    rw [e1] at hf
    simp only at hf
    split at hf
    · rename_i ds e3
      split at hf
      · rename_i hz
        simp only [Option.some.injEq] at hf
        subst hf
        obtain ⟨f0, z1, z2, _⟩ := frzE_some (ownAt_of e3)
        rw [(z2 rfl).1] at z1
        obtain ⟨va, s1, _, s2⟩ := h.slot i _ true z1
        obtain ⟨a, ys, rfl, hy, _, _⟩ := (s2 rfl).1
        refine ⟨.ref a, s1, .inl ⟨rfl, ys, .inl (.inl hy)⟩, bx, _, env, bs, v, b1, h.erel (skA c), e1, fun vv H1 bx1 ep1 r1 => ?_⟩
        have st := h.eval1 (skA c) ep1
        obtain ⟨a', ys', s3, hy', ry'⟩ := st.own e3
        rw [s1] at s3
        cases s3
        exact ⟨a, ys', vv, rfl, rfl, hy', by rw [← ry'.length]; exact hz, k _ _ _ _ (st.write (ownAt_of e3) s1 (ry'.append (.cons r1 .nil)))⟩
      · cases hf
    · cases hf
def rExtL (X : Cx) : V → List V → Hp → VK → Prop := fun x vs H Q => ∃ bx P l b xs zs, x = .ref l ∧ vs = [.ref b] ∧ H l = some (.lst xs) ∧ (LstAt (RX X bx) P H b zs ∨ SqT X.K H b zs) ∧ xs.length + zs.length ≤ sizeLine ∧ Q .non (upd H l (.lst (xs ++ zs)))
theorem list_extend_tupleR (l : Addr) (items : Array Value) (n : Nat) (b : Addr) (items2 : Array Value) (n2 : Nat) (hs0 : ¬(!items.isEmpty && Builtin.List.listTooLong (items.size + items2.size)) = true) (hs1 : items.size ≤ sizeLine) (hs2 : items.size + items2.size ≤ sizeLine + 1) :
    Meets (Builtin.«list.extend» ⟨[.ref l, .ref b], []⟩) (fun _ R s => s.heap.get? l = some { cls := .type "list", dict := none, data := .seq items n, slots := #[] } ∧ (∃ o, s.heap.get? b = some o ∧ o.cls = .type "tuple" ∧ o.data = .seq items2 n2) ∧ R (.ok (.ret Value.none)) { s with heap := s.heap.update l (Obj.mapSeq fun x => x ++ items2), toks := s.toks }) :=
  .of_wp fun prog w A R s h => by
    obtain ⟨hp, g, d, tk, os⟩ := s; obtain ⟨hl, ⟨⟨oc, od, odt, osl⟩, hb, rfl, rfl⟩, h⟩ := h; have f1 := AutoSeq1.idx_int; have f2 := AutoSeq1.sub_tuple_tuple; have f3 := AutoSeq1.sub_list_list; have f4 := AutoSeq1.sub_tuple_list; have f5 := AutoSeq1.sub_list_tuple;
    have hz' : (items ++ items2).size ≤ sizeLine + 1 := by rw [Array.size_append]; exact hs2
    wp_walk using (PySem.wpAny_updateSeq hl rfl (hz := hs1) (_hz' := hz')), AutoSeq1.wpAny_loadPart' hl, AutoSeq1.wpAny_loadPart' hb; exact ⟨_, rfl, h⟩
theorem mt_extL : MtM X "list.extend" (rExtL X) := by
  intro pins s σ H x vs v us Q I rx rv h
  obtain ⟨bx, P, l, b, xs, zs, rfl, rfl, hH, hB, hz, q⟩ := h
  cases rx
  obtain ⟨u, rfl, ru⟩ := rv.one
  cases ru
  obtain ⟨z, its, n, r, hl, e⟩ := I.lstM hH
  have fin : ∀ {its2 : List Value}, Vals zs its2 → L2.Inv X pins σ (upd H l (.lst (xs ++ zs))) { s with heap := s.heap.update l (Obj.mapSeq fun x => x ++ its2.toArray), toks := s.toks } := fun {its2} r2 => by
    refine I.lset (its' := its ++ its2) hH e (by simp) (r.append r2) ?_
    rw [List.length_append]
    omega
  rcases hB with hB | hB
  · obtain ⟨z2, its2, n2, r2, hl2, e2⟩ := lstObj I hB
    have hsz : its.toArray.size + its2.toArray.size ≤ sizeLine := by rw [List.size_toArray, List.size_toArray]; omega
    have hlong : ¬ (!its.toArray.isEmpty && Builtin.List.listTooLong (its.toArray.size + its2.toArray.size)) = true := by
      rw [notLongL hsz, Bool.and_false]
      exact Bool.false_ne_true
    refine call_meets F.slot_list_extend ⟨_, e, rfl⟩ F.entry_list_extend (F.args_list_extend_2 _ _)
      (AutoSeq1.list_extend_list_list_0 l its.toArray n b its2.toArray n2 hlong (by rw [List.size_toArray]; omega) (by omega)) ⟨e, e2, ?_⟩
    exact ⟨.non, _, fin r2, rfl, q⟩
  · obtain ⟨its2, r2, ht, z2⟩ := I.tuple hB
    have hl2 := r2.length
    have hsz : its.toArray.size + its2.toArray.size ≤ sizeLine := by rw [List.size_toArray, List.size_toArray]; omega
    have hlong : ¬ (!its.toArray.isEmpty && Builtin.List.listTooLong (its.toArray.size + its2.toArray.size)) = true := by
      rw [notLongL hsz, Bool.and_false]
      exact Bool.false_ne_true
    obtain ⟨o, e2, hc, n2, hd⟩ := ht
    refine call_meets F.slot_list_extend ⟨_, e, rfl⟩ F.entry_list_extend (F.args_list_extend_2 _ _)
      (list_extend_tupleR l its.toArray n b its2.toArray n2 hlong (by rw [List.size_toArray]; omega) (by omega)) ⟨e, ⟨o, e2, hc, hd⟩, ?_⟩
    exact ⟨.non, _, fin r2, rfl, q⟩
theorem s_ext {i : Nat} {c : CE} {x : Str} {e : Expr} {px ap cp pos : Pos} (ho : RdOk X i x) (he : SE X cl c e) (hn : ns e = true)
    (hbase : attributeBase (.Name x px) "extend" X.env (eval (.Name x px) X.env) = eval (.Name x px) X.env) (hline : (ap.endLine == cp.line) = true) :
    SS X cl W (.ext i c) (.Expr (.Call (.Attribute (.Name x px) "extend" ap) [e] [] cp) pos) := by
  have hA := pa_cons he.lk pa_nil (star_ns hn)
  refine ⟨PS.imp (ps_expr (pe_bm F.plainAttrs_list F.slot_list_extend F.type_list_extend mt_extL (pe_var ho.ix ho.vis ho.d1 ho.d2) hA hbase (by rw [star_ns hn]; rfl) hline (star_ns hn) rfl) rfl) fun D σ H q => ?_⟩
  obtain ⟨r, bx, P, env, bs, y, h, hf, k⟩ := q
  simp only [xs] at hf
  cases e1 : ev cl c env bs with
  | none => rw [e1] at hf; cases hf
  | some y1 =>
    obtain ⟨v, b1⟩ := y1
    rw [e1] at hf
    simp only at hf
    split at hf
    · rename_i ds es e3 e4
      split at hf
      · rename_i hz
        simp only [Option.some.injEq] at hf
        subst hf
        obtain ⟨f0, z1, z2, _⟩ := frzE_some (ownAt_of e3)
        rw [(z2 rfl).1] at z1
        obtain ⟨va, s1, _, s2⟩ := h.slot i _ true z1
        obtain ⟨a, ys, rfl, hy, _, _⟩ := (s2 rfl).1
        refine ⟨.ref a, s1, .inl ⟨rfl, ys, .inl (.inl hy)⟩, bx, _, env, bs, v, b1, h.erel (sk c), e1, fun vv H1 bx1 ep1 r1 => ?_⟩
        have st := h.eval1 (sk c) ep1
        obtain ⟨a', ys', s3, hy', ry'⟩ := st.own e3
        rw [s1] at s3
        cases s3
        cases v with
        | lst es' =>
          simp only [seqD, Option.some.injEq] at e4; subst e4
          obtain ⟨b, zs, rfl, hb, rb⟩ := r1.lst_
          exact ⟨bx1, _, a, b, ys', zs, rfl, rfl, hy', .inl hb, by rw [← ry'.length, ← rb.length]; exact hz, k _ _ _ _ (st.write (ownAt_of e3) s1 (ry'.append rb))⟩
        | tup es' =>
          simp only [seqD, Option.some.injEq] at e4; subst e4
          obtain ⟨b, zs, rfl, hb, rb⟩ := r1.tup_
          exact ⟨bx1, fun _ => True, a, b, ys', zs, rfl, rfl, hy', .inr hb, by rw [← ry'.length, ← rb.length]; exact hz, k _ _ _ _ (st.write (ownAt_of e3) s1 (ry'.append rb))⟩
        | _ => simp [seqD] at e4
      · cases hf
    · cases hf
/-- y = xs.pop(e) -/
theorem Reps.eraseIdx {R : Rx} {P : Addr → Prop} {H : Hp} : ∀ {ds : List D} {xs : List V} (n : Nat), Reps R P H ds xs → Reps R P H (ds.eraseIdx n) (xs.eraseIdx n)
  | [], _, n, h => by rw [h.invNil]; exact .nil
  | d :: ds, _, 0, h => by
    obtain ⟨y, r, rfl, hy, t⟩ := h.inv
    exact t
  | d :: ds, _, n + 1, h => by
    obtain ⟨y, r, rfl, hy, t⟩ := h.inv
    exact .cons hy (Reps.eraseIdx n t)
theorem s_setPop {j i : Nat} {c : CE} {y x : Str} {e : Expr} {py px ap cp pos : Pos} (hN : X.N.Nodup) (hj : StOk X j y) (ho : RdOk X i x) (he : SE X cl c e) (hn : ns e = true)
    (hs : swapsWith (.Call (.Attribute (.Name x px) "pop" ap) [e] [] cp) (some (.Name y py)) pos.line X.env = pure false)
    (hbase : attributeBase (.Name x px) "pop" X.env (eval (.Name x px) X.env) = eval (.Name x px) X.env) (hline : (ap.endLine == cp.line) = true) :
    SS X cl W (.setPop j i (.so c)) (.Assign [.Name y py] (.Call (.Attribute (.Name x px) "pop" ap) [e] [] cp) pos) := by
  have hA := pa_cons he.lk pa_nil (star_ns hn)
  refine ⟨PS.imp (ps_set hN hj.ix hj.loc (pe_bm F.plainAttrs_list F.slot_list_pop F.type_list_pop mt_popAt (pe_var ho.ix ho.vis ho.d1 ho.d2) hA hbase (by rw [star_ns hn]; rfl) hline (star_ns hn) rfl) hs hj.fn) fun D σ H q => ?_⟩
  obtain ⟨r, bx, P, env, bs, w, h, hf, k⟩ := q
  simp only [xs, evO, bind_def] at hf
  cases e1 : ev cl c env bs with
  | none => simp only [M.bnd, e1] at hf; cases hf
  | some y1 =>
    obtain ⟨v, b1⟩ := y1
    simp only [M.bnd, e1] at hf
    cases v with
    | int n =>
      simp only [pure_def, M.ret] at hf
      cases e3 : ownAt (frzE (skO (.so c)) env) i with
      | none => rw [e3] at hf; cases hf
      | some x0 =>
        rw [e3] at hf
        simp only at hf
        cases x0 with
        | lst ds =>
          simp only [popD] at hf
          split at hf
          · cases hf
          · rename_i v0 x' hp
            split at hp
            · rename_i hn1
              split at hp
              · rename_i m hm
                obtain ⟨d, hd, hp⟩ := Option.map_eq_some_iff.mp hp
                cases hp
                split at hf
                · rename_i hlt
                  simp only [Option.some.injEq] at hf
                  subst hf
                  obtain ⟨f0, z1, z2, _⟩ := frzE_some (ownAt_of e3)
                  rw [(z2 rfl).1] at z1
                  obtain ⟨va, s1, _, s2⟩ := h.slot i _ true z1
                  obtain ⟨a, ys, rfl, hy, _, _⟩ := (s2 rfl).1
                  refine ⟨.ref a, s1, .inl ⟨rfl, ys, .inl (.inl hy)⟩, bx, _, env, bs, .int n, b1, h.erel (skO (.so c)), e1, fun vv H1 bx1 ep1 r1 => ?_⟩
                  have st := h.eval1 (skO (.so c)) ep1
                  obtain ⟨a', ys', s3, hy', ry'⟩ := st.own e3
                  rw [s1] at s3
                  cases s3
                  obtain ⟨yv, hyv, ryv⟩ := ry'.get hd
                  have hl := ry'.length
                  refine ⟨a, ys', n, m, yv, rfl, by rw [r1.int_], hy', hn1.1, hn1.2, by rw [← hl]; exact hm, hyv, ?_⟩
                  have st2 := st.write (ownAt_of e3) s1 (ry'.eraseIdx m)
                  obtain ⟨v9, q1, _, q3⟩ := st.slot i _ true (ownAt_of e3)
                  rw [s1] at q1
                  cases q1
                  obtain ⟨np, _⟩ := (q3 rfl).2 a rfl
                  have rv := ryv.write (ys := ys'.eraseIdx m) hy' (fun b p z => np (z ▸ p))
                  exact k _ _ _ _ (st2.setF (by rw [List.length_set, frzE_length]; exact hlt) rv)
                · cases hf
              · cases hp
            · cases hp
        | _ => simp [popD] at hf
    | _ => simp [M.lift] at hf
theorem frzE_nil (env : Env) : frzE [] env = env := by
  unfold frzE
  simp
theorem s_setPop0 {j i : Nat} {y x : Str} {py px ap cp pos : Pos} (hN : X.N.Nodup) (hj : StOk X j y) (ho : RdOk X i x)
    (hs : swapsWith (.Call (.Attribute (.Name x px) "pop" ap) [] [] cp) (some (.Name y py)) pos.line X.env = pure false)
    (hbase : attributeBase (.Name x px) "pop" X.env (eval (.Name x px) X.env) = eval (.Name x px) X.env) (hline : (ap.endLine == cp.line) = true) :
    SS X cl W (.setPop j i .no) (.Assign [.Name y py] (.Call (.Attribute (.Name x px) "pop" ap) [] [] cp) pos) := by
  refine ⟨PS.imp (ps_set hN hj.ix hj.loc (pe_bm0 F.plainAttrs_list F.slot_list_pop F.type_list_pop mt_pop (pe_var ho.ix ho.vis ho.d1 ho.d2) hbase hline) hs hj.fn) fun D σ H q => ?_⟩
  obtain ⟨r, bx, P, env, bs, w, h, hf, k⟩ := q
  simp only [xs, evO, pure_def, M.ret] at hf
  cases e3 : ownAt (frzE (skO .no) env) i with
  | none => rw [e3] at hf; cases hf
  | some x0 =>
    rw [e3] at hf
    simp only at hf
    cases x0 with
    | lst ds =>
      simp only [popD] at hf
      split at hf
      · cases hf
      · rename_i v0 x' hp
        obtain ⟨d, hd, hp⟩ := Option.map_eq_some_iff.mp hp
        cases hp
        split at hf
        · rename_i hlt
          simp only [Option.some.injEq] at hf
          subst hf
          have hz : frzE (skO .no) env = env := frzE_nil env
          rw [hz] at e3 k
          obtain ⟨a, ys, s1, hy, ry⟩ := h.own e3
          obtain ⟨yv, hyv, ryv⟩ := ry.get hd
          have hl := ry.length
          refine ⟨.ref a, s1, .inl ⟨rfl, ys, .inl (.inl hy)⟩, a, ys, yv, rfl, rfl, hy, by rw [← hl]; exact hyv, ?_⟩
          have e9 : ∀ {α : Type} (l : List α), l.dropLast = l.eraseIdx (l.length - 1) := fun l => by
            rw [List.eraseIdx_length_sub_one]
          have st2 := h.write (ownAt_of e3) s1 (ry.eraseIdx (ds.length - 1))
          obtain ⟨v9, q1, _, q3⟩ := h.slot i _ true (ownAt_of e3)
          rw [s1] at q1
          cases q1
          obtain ⟨np, _⟩ := (q3 rfl).2 a rfl
          have rv := ryv.write (ys := ys.eraseIdx (ds.length - 1)) hy (fun b p z => np (z ▸ p))
          rw [e9 ds] at k
          rw [e9 ys, ← hl]
          exact k _ _ _ _ (st2.setF (by rw [List.length_set]; exact hlt) rv)
        · cases hf
    | _ => simp [popD] at hf
theorem s_stk {a : CE} {es : CEs} {s : Stmt} : SS X cl W (.expr (.mth .stk a es)) s := by
  refine ⟨⟨fun pins s σ H D I q => ?_⟩⟩
  obtain ⟨r, bx, P, env, bs, y, h, hf, k⟩ := q
  simp only [xs] at hf
  cases e : ev cl (.mth .stk a es) env bs with
  | none => rw [e] at hf; cases hf
  | some z => obtain ⟨d, b⟩ := z; exact (ev_stk e).elim
end
end En

/-! The engine, part r: the small language's text is the program's: a decided check, and that it is enough. -/
namespace En
open PySem PySem.Spec PyProof.Rows L2

/-- what a def's text is read with -/
structure Ck where
  sc : Scope
  fnm : List (Str × NameKind)
  N : List Str
  fns : List (Str × Nat)
  cns : List Str
def ckGl (k : Ck) (x : Str) : Bool := match k.sc.names.lookup x with
  | some .globalImplicit => true
  | _ => false
def ckVis (k : Ck) (x : Str) : Bool := match k.sc.names.lookup x with
  | some .local => true
  | some .cell => true
  | some .free => true
  | _ => false
def dunder2 (x : Str) : Bool := x == ("__debug__" : Str) || x == ("__classdict__" : Str)
def ckSt (k : Ck) (i : Nat) (x : Str) : Bool := k.N[i]? == some x && (match k.sc.names.lookup x with
  | some .local => true
  | some .cell => (match k.fnm.lookup x with
    | some .cell => true
    | _ => false)
  | _ => false)
def ckRd (k : Ck) (i : Nat) (x : Str) : Bool := k.N[i]? == some x && ckVis k x && !dunder2 x
def bis : List Str := ["len", "int", "abs", "tuple", "list", "sum", "all", "any", "max", "min", "isinstance", "range", "zip", "enumerate", "str", "bool", "sorted", "set"]
/-- the context is that of the text -/
structure CkOk (X : Cx) (cl : Calls) (k : Ck) : Prop where
  sc : X.env.scope = k.sc
  kind : X.env.blockKind = .function
  N : X.N = k.N
  nd : X.N.Nodup
  calm : X.calm = true
  hu : X.A.units + 65 < cLine
  fn : ∀ x, k.fnm.lookup x = some .cell → X.fn x = true
  bi : ∀ x ∈ bis, X.mg x = none
  fa : ∀ g x np, k.fns[g]? = some (x, np) → FA X x np (cl.fn g)
  co : ∀ i x, k.cns[i]? = some x → ConOk X x (cl.con i)
mutual
def ckG (k : Ck) : CG → Expr → Bool
  | .nm i, e => match e with
    | .Name x _ => ckSt k i x
    | _ => false
  | .tp gs, e => match e with
    | .Tuple es _ _ => ckGs k gs es
    | _ => false
def ckGs (k : Ck) : List CG → List Expr → Bool
  | [], es => match es with
    | [] => true
    | _ => false
  | g :: gs, es => match es with
    | e :: es => ns e && ckG k g e && ckGs k gs es
    | [] => false
end
/-- the names of a block's own, with their places -/
def ownOf (N : List Str) (vs : List Nat) : List (Str × Nat) := vs.filterMap fun v => (N[v]?).map fun x => (x, v)
def ckBi : BI → Bool
  | .isi _ => false
  | _ => true
/-- text.replace(written, written) of a name -/
def ckRp (k : Ck) (a : CE) (x : Expr) : Bool := match a with
  | .mth (.repl y z) (.var i) .nil => match x with
    | .Call (.Attribute (.Name n _) m ap) [.Constant (.str u) _ _, .Constant (.str v) _ _] [] pos => ckRd k i n && decide (m = "replace") && ap.endLine == pos.line && y == u && z == v && !(y == z)
    | _ => false
  | _ => false
/-- ... if "written" in name else ... -/
def ckW (k : Ck) (c a b : CE) (t x y : Expr) : Bool := match c with
  | .cmp op (.cst (.str w)) (.var i) => match t with
    | .Compare (.Constant (.str w') _ _) [op'] [.Name n p] _ => decide (op = op') && w == w' && PyData.strOk w && !behindInMarks op' (.Name n p) && ckRd k i n && ckRp k a x && ckRp k b y
    | _ => false
  | _ => false
mutual
def ckE (k : Ck) : CE → Expr → Bool
  | .var i, e => match e with
    | .Name x _ => ckRd k i x
    | _ => false
  | .glb i, e => match e with
    | .Name x _ => ckGl k x && !dunder2 x && k.cns[i]? == some x
    | _ => false
  | .cst d, e => match e with
    | .Constant c _ _ => match d, c with
      | .non, .none => true
      | .bl a, .bool b => a == b
      | .int a, .int b => a == b
      | .str a, .str b => a == b && PyData.strOk a
      | _, _ => false
    | _ => false
  | .bin op a b, e => match e with
    | .BinOp l o r _ => decide (op = o) && ckE k a l && ckE k b r
    | _ => false
  | .neg a, e => match e with
    | .UnaryOp o r _ => decide (o = .USub) && ckE k a r
    | _ => false
  | .not a, e => match e with
    | .UnaryOp o r _ => decide (o = .Not) && ckE k a r
    | _ => false
  | .bop op es, e => match e with
    | .BoolOp o vs _ => decide (op = o) && ckB k es vs
    | _ => false
  | .cmp op a b, e => match e with
    | .Compare l [o] [r] _ => decide (op = o) && !behindInMarks o r && ckE k a l && ckE k b r
    | _ => false
  | .chn o1 o2 a b c, e => match e with
    | .Compare l [p1, p2] [m, r] _ => decide (o1 = p1) && decide (o2 = p2) && !lastMarks [p1, p2] [m, r] && ckE k a l && ckE k b m && ckE k c r
    | _ => false
  | .ife c a b, e => match e with
    | .IfExp t x y _ => (ckE k c t && ckE k a x && ckE k b y) || ckW k c a b t x y
    | _ => false
  | .tup es, e => match e with
    | .Tuple vs _ _ => ckEs k es vs
    | _ => false
  | .lst es, e => match e with
    | .List vs _ => ckEs k es vs
    | _ => false
  | .dct ks es, e => match e with
    | .Dict keys vs _ => match keys with
      | [] => ks.isEmpty && (match es with | .nil => true | _ => false) && vs.isEmpty
      | _ :: _ => ckD k ks es keys vs && keys.all (·.isSome) && decide (keys.length = vs.length) && decide (keys.length ≤ 15)
    | _ => false
  | .idx a i, e => match e with
    | .Subscript x y _ => noSl y && ckE k a x && ckE k i y
    | _ => false
  | .slc a lo hi, e => match e with
    | .Subscript x (.Slice l h none _) _ => ckE k a x && ckO k lo l && ckO k hi h
    | _ => false
  | .rev a, e => match e with
    | .Subscript x (.Slice none none (some (.UnaryOp o (.Constant (.int 1) _ _) _)) _) _ => decide (o = .USub) && ckE k a x
    | _ => false
  | .call g es, e => match e with
    | .Call (.Name x _) vs [] _ => ckGl k x && !dunder2 x && k.fns[g]? == some (x, es.len) && decide (es.len = vs.length) && vs.all ns && ckEs k es vs
    | _ => false
  | .bi b es, e => match e with
    | .Call (.Name x _) (v :: vs) [] _ => match b with
      | .isi T => match es with
        | .cons c .nil => match vs with
          | [.Name y _] => decide (x = "isinstance") && decide (y = Str.ofString T) && ["bool", "int", "str", "tuple", "list"].contains T && ckGl k x && ckGl k y && ns v && ckE k c v
          | _ => false
        | _ => false
      | b => decide (x = biN b) && ckGl k x && (v :: vs).all ns && ckEs k es (v :: vs)
    | _ => false
  | .mth m a es, e => match m with
    | .stk => true
    | .repl _ _ => false
    | .rev0 => match e with
      | .Subscript x (.Slice none (some (.Constant (.int 0) _ _)) (some (.UnaryOp o (.Constant (.int 1) _ _) _)) _) _ => match es with
        | .nil => decide (o = .USub) && ckE k a x
        | _ => false
      | _ => false
    | .upper => match e with
      | .Call (.Attribute (.Name x px) n ap) [] [] pos => match es with
        | .nil => decide (n = "upper") && ap.endLine == pos.line && ckE k a (.Name x px)
        | _ => false
      | _ => false
    | .index => match e with
      | .Call (.Attribute (.Name x px) n ap) [v] [] pos => match es with
        | .cons c .nil => decide (n = "index") && ap.endLine == pos.line && ns v && ckE k c v && ckE k a (.Name x px)
        | _ => false
      | _ => false
    | .index2 => match e with
      | .Call (.Attribute (.Name x px) n ap) [v, v2] [] pos => match es with
        | .cons c (.cons c2 .nil) => decide (n = "index") && ap.endLine == pos.line && ns v && ns v2 && ckE k c v && ckE k c2 v2 && ckE k a (.Name x px)
        | _ => false
      | _ => false
    | .lenset => match e with
      | .Call (.Name x _) [.Call (.Name y _) [v] [] _] [] _ => match es with
        | .nil => decide (x = "len") && decide (y = "set") && ckGl k x && ckGl k y && ns v && ckE k a v
        | _ => false
      | _ => false
    | .lrange => match e with
      | .Call (.Name x _) [.Call (.Name y _) [v] [] _] [] _ => match es with
        | .nil => decide (x = "list") && decide (y = "range") && ckGl k x && ckGl k y && ns v && ckE k a v
        | _ => false
      | _ => false
    | .dsp1 => match e with
      | .Dict [some x] [v] _ => match es with
        | .cons c .nil => ckE k a x && ckE k c v
        | _ => false
      | _ => false
    | .skey => match e with
      | .Call (.Name x _) [v] [⟨some y1, .Name y _, _⟩, ⟨some y2, .Constant (.bool true) _ _, _⟩] _ => match es with
        | .nil => decide (x = "sorted") && decide (y1 = "key") && decide (y = "sum") && decide (y2 = "reverse") && ckGl k x && ckGl k y && ns v && ckE k a v
        | _ => false
      | _ => false
  | .lc g it ifs elt own, e => match e with
    | .ListComp ee [⟨tg, iter, eifs, 0⟩] scope _ => blkC k.N k.sc scope (ownOf k.N own) && decide ((ownOf k.N own).map (·.2) = own) && (gsl g).all (fun i => own.contains i) && ckI k it tg iter &&
        ckG { k with sc := relS scope k.sc, fnm := scope.names } g tg && ckTs { k with sc := relS scope k.sc, fnm := scope.names } ifs eifs && ckE { k with sc := relS scope k.sc, fnm := scope.names } elt ee
    | _ => false
def ckB (k : Ck) : CEs → List Expr → Bool
  | .nil, _ => false
  | .cons c .nil, es => match es with
    | [e] => ckE k c e
    | _ => false
  | .cons c (.cons d cs), es => match es with
    | e :: f :: r => ckE k c e && ckB k (.cons d cs) (f :: r)
    | _ => false
def ckO (k : Ck) : CO → Option Expr → Bool
  | .no, e => match e with
    | none => true
    | some _ => false
  | .so c, e => match e with
    | some e => ckE k c e
    | none => false
def ckEs (k : Ck) : CEs → List Expr → Bool
  | .nil, es => match es with
    | [] => true
    | _ :: _ => false
  | .cons c cs, es => match es with
    | e :: es => ns e && ckE k c e && ckEs k cs es
    | [] => false
def ckTs (k : Ck) : CEs → List Expr → Bool
  | .nil, es => match es with
    | [] => true
    | _ :: _ => false
  | .cons c cs, es => match es with
    | [e] => (match cs with | .nil => true | _ => false) && ckE k c e
    | _ => false
def ckD (k : Ck) : List D → CEs → List (Option Expr) → List Expr → Bool
  | ks, .nil, keys, vs => ks.isEmpty && keys.isEmpty && vs.isEmpty
  | ks, .cons c cs, keys, vs => match ks, keys, vs with
    | d :: ks, some (.Constant q _ _) :: keys, v :: vs => (match d, q with
      | .int a, .int b => a == b
      | .str a, .str b => a == b
      | _, _ => false) && ckE k c v && ckD k ks cs keys vs
    | _, _, _ => false
def ckI (k : Ck) : CI → Expr → Expr → Bool
  | .it c, _, e => (match e with | .Set .. => false | _ => true) && ckE k c e
  | .rng es, _, e => match e with
    | .Call (.Name x _) vs [] _ => decide (x = "range") && ckGl k x && (decide (es.len = 1) || decide (es.len = 2)) && ckEs k es vs
    | _ => false
  | .zip a b, tg, e => match tg with
    | .Tuple _ _ _ => match e with
      | .Call (.Name x _) [u, v] [] _ => decide (x = "zip") && ckGl k x && ns u && ns v && ckE k a u && ckE k b v
      | _ => false
    | _ => false
  | .enum a, tg, e => match tg with
    | .Tuple _ _ _ => match e with
      | .Call (.Name x _) [u] [] _ => decide (x = "enumerate") && ckGl k x && ns u && ckE k a u
      | _ => false
    | _ => false
end
section
variable {X : Cx} {cl : Calls} {k : Ck}
theorem CkOk.gl (h : CkOk X cl k) {x : Str} (e : ckGl k x = true) : Gl X x := by
  show X.env.scope.names.lookup x = some .globalImplicit
  rw [h.sc]
  unfold ckGl at e
  split at e
  · assumption
  · cases e
theorem CkOk.vis (h : CkOk X cl k) {x : Str} (e : ckVis k x = true) : Vis X.env.scope x := by
  unfold Vis
  rw [h.sc]
  unfold ckVis at e
  split at e
  · exact .inl (by assumption)
  · exact .inr (.inl (by assumption))
  · exact .inr (.inr (by assumption))
  · cases e
theorem dunder2_of {x : Str} (h : dunder2 x = false) : (x == ("__debug__" : Str)) = false ∧ (x == ("__classdict__" : Str)) = false := by
  unfold dunder2 at h
  exact Bool.or_eq_false_iff.mp h
theorem CkOk.st (h : CkOk X cl k) {i : Nat} {x : Str} (e : ckSt k i x = true) : StOk X i x := by
  unfold ckSt at e
  rw [Bool.and_eq_true] at e
  obtain ⟨e1, e2⟩ := e
  have e1 : k.N[i]? = some x := by simpa using e1
  refine ⟨by rw [h.N]; exact e1, ?_, ?_⟩
  · unfold L2.Loc
    rw [h.sc]
    split at e2
    · exact .inl (by assumption)
    · exact .inr (by assumption)
    · cases e2
  · rw [h.sc]
    split at e2
    · exact .inr (by assumption)
    · split at e2
      · rename_i q; exact .inl (h.fn x q)
      · cases e2
    · cases e2
theorem CkOk.rd (h : CkOk X cl k) {i : Nat} {x : Str} (e : ckRd k i x = true) : RdOk X i x := by
  unfold ckRd at e
  simp only [Bool.and_eq_true, Bool.not_eq_true'] at e
  obtain ⟨⟨e1, e2⟩, e3⟩ := e
  obtain ⟨d1, d2⟩ := dunder2_of e3
  exact ⟨by rw [h.N]; simpa using e1, h.vis e2, d1, d2⟩
/-- in a comprehension's block -/
theorem CkOk.blk (h : CkOk X cl k) {scope : Scope} (hk : scope.kind = .function) (s : Shared) (H : Hp) (C : Addr) (c2 : List (Str × Addr)) (fp : List Addr) :
    CkOk (X.blk s H scope (compEnvC scope c2 C X.env) fp) cl { k with sc := relS scope k.sc, fnm := scope.names } where
  sc := by show relS scope X.env.scope = _; rw [h.sc]
  kind := by
    show (compEnvC scope c2 C X.env).blockKind = .function
    unfold Env.blockKind
    have : (compEnvC scope c2 C X.env).scope.kind = .function := hk
    rw [this]; rfl
  N := h.N
  nd := h.nd
  calm := h.calm
  hu := h.hu
  fn := fun x q => by show (scope.names.lookup x == some .cell) = true; rw [q]; rfl
  bi := h.bi
  fa := fun g x np e => ⟨(h.fa g x np e).ex⟩
  co := fun i x e => ⟨(h.co i x e).at_⟩
mutual
theorem ckG_ok (h : CkOk X cl k) : ∀ (g : CG) (e : Expr), ckG k g e = true → PG X e (tGd X g)
  | .nm i, e, q => by
    cases e with
    | Name x pos =>
      simp only [ckG] at q
      have o := h.st q
      exact sg_nm h.nd o.ix o.loc o.fn
    | _ => simp [ckG] at q
  | .tp gs, e, q => by
    cases e with
    | Tuple es n pos =>
      simp only [ckG] at q
      obtain ⟨h1, h2, h3⟩ := ckGs_ok h gs es q
      exact sg_tp h.calm h2 h3 h1
    | _ => simp [ckG] at q
theorem ckGs_ok (h : CkOk X cl k) : ∀ (gs : List CG) (es : List Expr), ckGs k gs es = true → PGs X es (tGds X gs) ∧ gs.length = es.length ∧ es.all ns = true
  | [], es, q => by
    cases es with
    | nil => exact ⟨sgs_nil, rfl, rfl⟩
    | cons e es => simp [ckGs] at q
  | g :: gs, es, q => by
    cases es with
    | nil => simp [ckGs] at q
    | cons e es =>
      simp only [ckGs, Bool.and_eq_true] at q
      obtain ⟨⟨q1, q2⟩, q3⟩ := q
      obtain ⟨h1, h2, h3⟩ := ckGs_ok h gs es q3
      exact ⟨sgs_cons q1 (ckG_ok h g e q2) h1, by simp [h2], by simp [q1, h3]⟩
end
theorem bis_bi (b : BI) : biN b ∈ bis := by cases b <;> simp [biN, bis]
theorem fold_ok {e : Expr} {env : PySem.Env} (h : (match e with | .Set .. => false | _ => true) = true) : ∀ x, foldedSetIterable e env x = pure x := by
  intro x
  cases e <;> first | rfl | simp at h
end
end En

/-! The engine, part s: the check of expressions is enough. -/
namespace En
open PySem PySem.Spec PyProof.Rows L2
variable {cl : Calls}
theorem and3 {a b c : Bool} (h : (a && b && c) = true) : a = true ∧ b = true ∧ c = true := by
  simp only [Bool.and_eq_true] at h; exact ⟨h.1.1, h.1.2, h.2⟩
theorem rng_ok {X : Cx} {tg : Expr} {p pos : Pos} (hg : Gl X "range") (hm : X.mg "range" = none) : ∀ (es : CEs) (vs : List Expr), SA X cl es vs → vs.all ns = true → es.len = vs.length → (es.len = 1 ∨ es.len = 2) → SI X cl tg (.rng es) (.Call (.Name "range" p) vs [] pos)
  | .cons c .nil, [v], h1, h3, _, _ => si_rng1 hg hm (by simpa using h3) h1
  | .cons c (.cons c2 .nil), [v, w], h1, h3, _, _ => by
    simp only [List.all_cons, List.all_nil, Bool.and_true, Bool.and_eq_true] at h3
    exact si_rng2 hg hm h3.1 h3.2 h1
  | .nil, _, _, _, _, h => by simp [CEs.len] at h
  | .cons _ .nil, [], _, _, h, _ => by simp [CEs.len] at h
  | .cons _ .nil, _ :: _ :: _, _, _, h, _ => by simp [CEs.len] at h
  | .cons _ (.cons _ .nil), [], _, _, h, _ => by simp [CEs.len] at h
  | .cons _ (.cons _ .nil), [_], _, _, h, _ => by simp [CEs.len] at h
  | .cons _ (.cons _ .nil), _ :: _ :: _ :: _, _, _, h, _ => by simp [CEs.len] at h
  | .cons _ (.cons _ (.cons _ _)), _, _, _, _, h => by simp [CEs.len] at h
theorem ckV_ok {X : Cx} {k : Ck} (h : CkOk X cl k) {i : Nat} {n : Str} {p : Pos} (q : ckRd k i n = true) : SE X cl (.var i) (.Name n p) := by
  have o := h.rd q
  exact se_var o.ix o.vis o.d1 o.d2
theorem ckRp_ok {X : Cx} {k : Ck} (h : CkOk X cl k) {a : CE} {x : Expr} (q : ckRp k a x = true) :
    PET X x (tF X (sk a) (ev cl a)) ∧ skA a = sk a ∧ fr0 a = false ∧ ∀ whole, isTrue x X.env whole = (do let v ← whole; standAt x.pos; holding [v] (truthy v)) := by
  unfold ckRp at q
  split at q
  · split at q
    · simp only [Bool.and_eq_true, decide_eq_true_eq, Bool.not_eq_true', beq_iff_eq] at q
      obtain ⟨⟨⟨⟨⟨q1, rfl⟩, q3⟩, rfl⟩, rfl⟩, q6⟩ := q
      exact ⟨pet_repl (ckV_ok h q1) q6 rfl rfl (by simpa using q3), by simp only [skA, sk, skAs, sks], rfl, fun _ => rfl⟩
    · cases q
  · cases q
theorem ckW_ok {X : Cx} {k : Ck} (h : CkOk X cl k) {c a b : CE} {t x y : Expr} {pos : Pos} (q : ckW k c a b t x y = true) : SE X cl (.ife c a b) (.IfExp t x y pos) := by
  unfold ckW at q
  split at q
  · split at q
    · simp only [Bool.and_eq_true, decide_eq_true_eq, Bool.not_eq_true', beq_iff_eq] at q
      obtain ⟨⟨⟨⟨⟨⟨rfl, rfl⟩, q3⟩, q4⟩, q5⟩, q6⟩, q7⟩ := q
      obtain ⟨a1, a2, a3, a4⟩ := ckRp_ok h q6
      obtain ⟨b1, b2, b3, b4⟩ := ckRp_ok h q7
      exact se_swap q3 (op2_cmp h.hu _) q4 (ckV_ok h q5) a1 b1 a2 b2 a3 a4 b4
    · cases q
  · cases q
mutual
theorem ckE_ok : ∀ (c : CE) (X : Cx) (k : Ck), CkOk X cl k → ∀ (e : Expr), ckE k c e = true → SE X cl c e
  | .var i, X, k, h, e, q => by
    cases e with
    | Name x pos =>
      simp only [ckE] at q
      have o := h.rd q
      exact se_var o.ix o.vis o.d1 o.d2
    | _ => simp [ckE] at q
  | .glb i, X, k, h, e, q => by
    cases e with
    | Name x pos =>
      simp only [ckE, Bool.and_eq_true, Bool.not_eq_true'] at q
      obtain ⟨⟨q1, q2⟩, q3⟩ := q
      exact se_glb (h.gl q1) (dunder2_of q2).1 (h.co i x (by simpa using q3))
    | _ => simp [ckE] at q
  | .cst d, X, k, h, e, q => by
    cases e with
    | Constant c j pos =>
      simp only [ckE] at q
      cases d <;> cases c <;> simp at q
      · exact se_non
      · subst q; exact se_bl
      · subst q; exact se_int
      · obtain ⟨rfl, q2⟩ := q; exact se_str q2
    | _ => simp [ckE] at q
  | .bin op a b, X, k, h, e, q => by
    cases e with
    | BinOp l o r pos =>
      simp only [ckE, Bool.and_eq_true, decide_eq_true_eq] at q
      obtain ⟨⟨rfl, q2⟩, q3⟩ := q
      exact se_bin (op2_bin op) (ckE_ok a X k h l q2) (ckE_ok b X k h r q3)
    | _ => simp [ckE] at q
  | .neg a, X, k, h, e, q => by
    cases e with
    | UnaryOp o r pos =>
      simp only [ckE, Bool.and_eq_true, decide_eq_true_eq] at q
      obtain ⟨rfl, q2⟩ := q
      exact se_neg (ckE_ok a X k h r q2)
    | _ => simp [ckE] at q
  | .not a, X, k, h, e, q => by
    cases e with
    | UnaryOp o r pos =>
      simp only [ckE, Bool.and_eq_true, decide_eq_true_eq] at q
      obtain ⟨rfl, q2⟩ := q
      exact se_not (ckE_ok a X k h r q2)
    | _ => simp [ckE] at q
  | .bop op es, X, k, h, e, q => by
    cases e with
    | BoolOp o vs pos =>
      simp only [ckE, Bool.and_eq_true, decide_eq_true_eq] at q
      obtain ⟨rfl, q2⟩ := q
      exact se_bop (ckB_ok es X k h op vs q2)
    | _ => simp [ckE] at q
  | .cmp op a b, X, k, h, e, q => by
    cases e with
    | Compare l os rs pos =>
      unfold ckE at q
      split at q
      · rename_i e1
        cases e1
        simp only [Bool.and_eq_true, decide_eq_true_eq, Bool.not_eq_true'] at q
        obtain ⟨⟨⟨rfl, q1⟩, q2⟩, q3⟩ := q
        exact se_cmp (op2_cmp h.hu op) q1 (ckE_ok a X k h _ q2) (ckE_ok b X k h _ q3)
      · cases q
    | _ => simp [ckE] at q
  | .chn o1 o2 a b c, X, k, h, e, q => by
    cases e with
    | Compare l os rs pos =>
      unfold ckE at q
      split at q
      · rename_i e1
        cases e1
        simp only [Bool.and_eq_true, decide_eq_true_eq, Bool.not_eq_true'] at q
        obtain ⟨⟨⟨⟨⟨rfl, rfl⟩, q1⟩, q2⟩, q3⟩, q4⟩ := q
        exact se_chn (op2_cmp h.hu o1) (op2_cmp h.hu o2) q1 (ckE_ok a X k h _ q2) (ckE_ok b X k h _ q3) (ckE_ok c X k h _ q4)
      · cases q
    | _ => simp [ckE] at q
  | .ife c a b, X, k, h, e, q => by
    cases e with
    | IfExp t x y pos =>
      simp only [ckE, Bool.or_eq_true, Bool.and_eq_true] at q
      rcases q with ⟨⟨q1, q2⟩, q3⟩ | q
      · exact se_ife (ckE_ok c X k h t q1) (ckE_ok a X k h x q2) (ckE_ok b X k h y q3)
      · exact ckW_ok h q
    | _ => simp [ckE] at q
  | .tup es, X, k, h, e, q => by
    cases e with
    | Tuple vs n pos =>
      simp only [ckE] at q
      exact se_tup (ckEs_ok es X k h vs q).1
    | _ => simp [ckE] at q
  | .lst es, X, k, h, e, q => by
    cases e with
    | List vs pos =>
      simp only [ckE] at q
      exact se_lst (ckEs_ok es X k h vs q).1
    | _ => simp [ckE] at q
  | .dct ks es, X, k, h, e, q => by
    cases e with
    | Dict keys vs pos =>
      cases keys with
      | nil =>
        simp only [ckE, Bool.and_eq_true, List.isEmpty_iff] at q
        obtain ⟨⟨rfl, q1⟩, rfl⟩ := q
        cases es with
        | nil => exact se_dct0
        | cons _ _ => simp at q1
      | cons y ys =>
        simp only [ckE, Bool.and_eq_true, decide_eq_true_eq] at q
        obtain ⟨⟨⟨q1, q2⟩, q3⟩, q4⟩ := q
        exact se_dct (ckD_ok es X k h ks (y :: ys) vs q1) q2 q3 rfl q4
    | _ => simp [ckE] at q
  | .idx a i, X, k, h, e, q => by
    cases e with
    | Subscript x y pos =>
      simp only [ckE, Bool.and_eq_true] at q
      obtain ⟨⟨q1, q2⟩, q3⟩ := q
      exact se_idx (ixd h.hu) q1 (ckE_ok a X k h x q2) (ckE_ok i X k h y q3)
    | _ => simp [ckE] at q
  | .slc a lo hi, X, k, h, e, q => by
    cases e with
    | Subscript x y pos =>
      unfold ckE at q
      split at q
      · rename_i e1
        cases e1
        simp only [Bool.and_eq_true] at q
        obtain ⟨⟨q1, q2⟩, q3⟩ := q
        exact se_slc sld (ckE_ok a X k h _ q1) (ckO_ok lo X k h _ q2) (ckO_ok hi X k h _ q3)
      · cases q
    | _ => simp [ckE] at q
  | .rev a, X, k, h, e, q => by
    cases e with
    | Subscript x y pos =>
      unfold ckE at q
      split at q
      · rename_i e1
        cases e1
        simp only [Bool.and_eq_true, decide_eq_true_eq] at q
        obtain ⟨rfl, q2⟩ := q
        exact se_rev (ckE_ok a X k h _ q2)
      · cases q
    | _ => simp [ckE] at q
  | .call g es, X, k, h, e, q => by
    cases e with
    | Call f vs kw pos =>
      unfold ckE at q
      split at q
      · rename_i e1
        cases e1
        simp only [Bool.and_eq_true, decide_eq_true_eq, Bool.not_eq_true'] at q
        obtain ⟨⟨⟨⟨⟨q1, q2⟩, q3⟩, q4⟩, q5⟩, q6⟩ := q
        exact se_call (h.fa g _ _ (by simpa using q3)) (h.gl q1) (ckEs_ok es X k h _ q6).1 (dunder2_of q2).1 q5 q4
      · cases q
    | _ => simp [ckE] at q
  | .bi b es, X, k, h, e, q => by
    cases e with
    | Call f vs kw pos =>
      cases b with
      | isi T =>
        unfold ckE at q
        split at q
        · rename_i e1
          cases e1
          simp only at q
          split at q
          · rename_i c
            split at q
            · simp only [Bool.and_eq_true, decide_eq_true_eq] at q
              obtain ⟨⟨⟨⟨⟨⟨rfl, rfl⟩, q3⟩, q4⟩, q5⟩, q6⟩, q7⟩ := q
              refine se_isi q3 (h.gl q4) (h.bi _ (by simp [bis])) (h.gl q5) (h.bi _ ?_) q6 (ckE_ok c X k h _ q7)
              simp only [List.contains_cons, List.contains_nil, Bool.or_false, Bool.or_eq_true, beq_iff_eq] at q3
              rcases q3 with rfl | rfl | rfl | rfl | rfl <;> simp [bis]
            · cases q
          · cases q
        · cases q
      | _ =>
        unfold ckE at q
        split at q
        · rename_i e1
          cases e1
          simp only [Bool.and_eq_true, decide_eq_true_eq] at q
          obtain ⟨⟨⟨rfl, q2⟩, q3⟩, q4⟩ := q
          exact se_bi (biV_kind _) (bid h.calm h.hu _ rfl) (h.gl q2) (h.bi _ (bis_bi _)) (biN_boot _) (ckEs_ok es X k h _ q4).1 (biN_name _).1 (biN_name _).2 q3
        · cases q
    | _ => simp [ckE] at q
  | .mth m a es, X, k, h, e, q => by
    cases m with
    | stk => exact se_stk
    | repl y z => simp [ckE] at q
    | rev0 =>
      unfold ckE at q
      simp only at q
      split at q
      · split at q
        · simp only [Bool.and_eq_true, decide_eq_true_eq] at q
          obtain ⟨rfl, q2⟩ := q
          exact se_rev0 (ckE_ok a X k h _ q2)
        · cases q
      · cases q
    | upper =>
      unfold ckE at q
      simp only at q
      split at q
      · split at q
        · simp only [Bool.and_eq_true, decide_eq_true_eq] at q
          obtain ⟨⟨rfl, q2⟩, q3⟩ := q
          exact se_upper (ckE_ok a X k h _ q3) rfl q2
        · cases q
      · cases q
    | index =>
      unfold ckE at q
      simp only at q
      split at q
      · split at q
        · rename_i c
          simp only [Bool.and_eq_true, decide_eq_true_eq] at q
          obtain ⟨⟨⟨⟨rfl, q2⟩, q3⟩, q4⟩, q5⟩ := q
          exact se_index (ckE_ok a X k h _ q5).lk (by simp only [skA, sk]) (ckE_ok c X k h _ q4) q3 q2 rfl
        · cases q
      · cases q
    | index2 =>
      unfold ckE at q
      simp only at q
      split at q
      · split at q
        · rename_i c c2
          simp only [Bool.and_eq_true, decide_eq_true_eq] at q
          obtain ⟨⟨⟨⟨⟨⟨rfl, q2⟩, q3⟩, q4⟩, q5⟩, q6⟩, q7⟩ := q
          exact se_index2 (ckE_ok a X k h _ q7).lk (by simp only [skA, sk]) (ckE_ok c X k h _ q5) q3 (ckE_ok c2 X k h _ q6) q4 q2 rfl
        · cases q
      · cases q
    | lenset =>
      unfold ckE at q
      simp only at q
      split at q
      · split at q
        · simp only [Bool.and_eq_true, decide_eq_true_eq] at q
          obtain ⟨⟨⟨⟨⟨rfl, rfl⟩, q3⟩, q4⟩, q5⟩, q6⟩ := q
          exact se_lenset h.calm (h.gl q3) (h.bi _ (by simp [bis])) (h.gl q4) (h.bi _ (by simp [bis])) q5 (ckE_ok a X k h _ q6)
        · cases q
      · cases q
    | lrange =>
      unfold ckE at q
      simp only at q
      split at q
      · split at q
        · simp only [Bool.and_eq_true, decide_eq_true_eq] at q
          obtain ⟨⟨⟨⟨⟨rfl, rfl⟩, q3⟩, q4⟩, q5⟩, q6⟩ := q
          exact se_lrange h.calm (h.gl q3) (h.bi _ (by simp [bis])) (h.gl q4) (h.bi _ (by simp [bis])) q5 (ckE_ok a X k h _ q6)
        · cases q
      · cases q
    | dsp1 =>
      unfold ckE at q
      simp only at q
      split at q
      · split at q
        · rename_i c
          simp only [Bool.and_eq_true] at q
          exact se_dsp1 h.hu (ckE_ok a X k h _ q.1) (ckE_ok c X k h _ q.2)
        · cases q
      · cases q
    | skey =>
      unfold ckE at q
      simp only at q
      split at q
      · split at q
        · simp only [Bool.and_eq_true, decide_eq_true_eq] at q
          obtain ⟨⟨⟨⟨⟨⟨⟨rfl, rfl⟩, rfl⟩, rfl⟩, q5⟩, q6⟩, q7⟩, q8⟩ := q
          exact se_skey h.calm (h.gl q5) (h.bi _ (by simp [bis])) (h.gl q6) (h.bi _ (by simp [bis])) q7 (ckE_ok a X k h _ q8)
        · cases q
      · cases q
  | .lc g it ifs elt own, X, k, h, e, q => by
    cases e with
    | ListComp ee gs scope pos =>
      unfold ckE at q
      split at q
      · rename_i e1
        cases e1
        simp only [Bool.and_eq_true, decide_eq_true_eq] at q
        obtain ⟨⟨⟨⟨⟨⟨q1, q2⟩, q3⟩, q4⟩, q5⟩, q6⟩, q7⟩ := q
        have ok := blkOk_by q1
        have hb := fun s H C cl' fp => h.blk ok.kind s H C cl' fp
        have hgs : ∀ i ∈ gsl g, i ∈ (ownOf k.N own).map (·.2) := fun i m => by
          rw [q2]
          have := List.all_eq_true.mp q3 i m
          simpa using this
        obtain ⟨i1, i2⟩ := ckI_ok it X k h _ _ q4
        rw [← q2]
        exact se_lc h.calm h.nd (by rw [h.N, h.sc]; exact ok) hgs i1 (fun s H C cl' fp => ckG_ok (hb s H C cl' fp) g _ q5) (fun s H C cl' fp => ckTs_ok ifs _ _ (hb s H C cl' fp) _ q6) (fun s H C cl' fp => ckE_ok elt _ _ (hb s H C cl' fp) _ q7) (fun x => i2 _ x)
      · cases q
    | _ => simp [ckE] at q
theorem ckB_ok : ∀ (c : CEs) (X : Cx) (k : Ck), CkOk X cl k → ∀ (op : BoolOp) (es : List Expr), ckB k c es = true → SB X cl op c es
  | .nil, X, k, h, op, es, q => by simp [ckB] at q
  | .cons c .nil, X, k, h, op, es, q => by
    unfold ckB at q
    split at q
    · exact sb_one (ckE_ok c X k h _ q)
    · cases q
  | .cons c (.cons d cs), X, k, h, op, es, q => by
    unfold ckB at q
    split at q
    · simp only [Bool.and_eq_true] at q
      exact sb_cons (ckE_ok c X k h _ q.1) (ckB_ok (.cons d cs) X k h op _ q.2)
    · cases q
theorem ckO_ok : ∀ (c : CO) (X : Cx) (k : Ck), CkOk X cl k → ∀ (e : Option Expr), ckO k c e = true → SO X cl c e
  | .no, X, k, h, e, q => by
    cases e with
    | none => exact so_no
    | some e => simp [ckO] at q
  | .so c, X, k, h, e, q => by
    cases e with
    | none => simp [ckO] at q
    | some e => simp only [ckO] at q; exact so_so (ckE_ok c X k h e q)
theorem ckEs_ok : ∀ (c : CEs) (X : Cx) (k : Ck), CkOk X cl k → ∀ (es : List Expr), ckEs k c es = true → SA X cl c es ∧ SAN X cl c es ∧ es.all ns = true ∧ c.len = es.length
  | .nil, X, k, h, es, q => by
    cases es with
    | nil => exact ⟨sa_nil, san_nil, rfl, rfl⟩
    | cons e es => simp [ckEs] at q
  | .cons c cs, X, k, h, es, q => by
    cases es with
    | nil => simp [ckEs] at q
    | cons e es =>
      simp only [ckEs, Bool.and_eq_true] at q
      obtain ⟨⟨q1, q2⟩, q3⟩ := q
      obtain ⟨h1, h2, h3, h4⟩ := ckEs_ok cs X k h es q3
      have he := ckE_ok c X k h e q2
      exact ⟨sa_cons q1 he h1, san_cons q1 he h2, by simp [q1, h3], by simp [CEs.len, h4]⟩
theorem ckTs_ok : ∀ (c : CEs) (X : Cx) (k : Ck), CkOk X cl k → ∀ (es : List Expr), ckTs k c es = true → STs X cl c es
  | .nil, X, k, h, es, q => by
    cases es with
    | nil => exact st_nil
    | cons e es => simp [ckTs] at q
  | .cons c cs, X, k, h, es, q => by
    unfold ckTs at q
    split at q
    · simp only [Bool.and_eq_true] at q
      cases cs with
      | nil => exact st_one (ckE_ok c X k h _ q.2)
      | cons _ _ => simp at q
    · cases q
theorem ckD_ok : ∀ (c : CEs) (X : Cx) (k : Ck), CkOk X cl k → ∀ (ks : List D) (keys : List (Option Expr)) (vs : List Expr), ckD k ks c keys vs = true → SD X cl ks c keys vs
  | .nil, X, k, h, ks, keys, vs, q => by
    simp only [ckD, Bool.and_eq_true, List.isEmpty_iff] at q
    obtain ⟨⟨rfl, rfl⟩, rfl⟩ := q
    exact sd_nil
  | .cons c cs, X, k, h, ks, keys, vs, q => by
    unfold ckD at q
    split at q
    · rename_i d ks q0 _ _ keys v vs
      simp only [Bool.and_eq_true] at q
      obtain ⟨⟨q1, q2⟩, q3⟩ := q
      have hv := ckE_ok c X k h _ q2
      have ht := ckD_ok cs X k h _ _ _ q3
      cases d <;> cases q0 <;> simp at q1
      · subst q1; exact sd_int hv ht
      · subst q1; exact sd_str hv ht
    · cases q
theorem ckI_ok : ∀ (c : CI) (X : Cx) (k : Ck), CkOk X cl k → ∀ (tg e : Expr), ckI k c tg e = true → SI X cl tg c e ∧ ∀ env x, foldedSetIterable e env x = pure x
  | .it c, X, k, h, tg, e, q => by
    simp only [ckI, Bool.and_eq_true] at q
    exact ⟨si_it (ckE_ok c X k h e q.2), fun env => fold_ok q.1⟩
  | .rng es, X, k, h, tg, e, q => by
    cases e with
    | Call f vs kw pos =>
      unfold ckI at q
      split at q
      · rename_i e1
        cases e1
        simp only [Bool.and_eq_true, decide_eq_true_eq, Bool.or_eq_true] at q
        obtain ⟨⟨⟨rfl, q2⟩, q3⟩, q4⟩ := q
        obtain ⟨h1, _, h3, h4⟩ := ckEs_ok es X k h _ q4
        exact ⟨rng_ok (h.gl q2) (h.bi _ (by simp [bis])) es _ h1 h3 h4 q3, fun _ _ => rfl⟩
      · cases q
    | _ => simp [ckI] at q
  | .zip a b, X, k, h, tg, e, q => by
    unfold ckI at q
    split at q
    · split at q
      · simp only [Bool.and_eq_true, decide_eq_true_eq] at q
        obtain ⟨⟨⟨⟨⟨rfl, q2⟩, q3⟩, q4⟩, q5⟩, q6⟩ := q
        exact ⟨si_zip (h.gl q2) (h.bi _ (by simp [bis])) q3 q4 (ckE_ok a X k h _ q5) (ckE_ok b X k h _ q6), fun _ _ => rfl⟩
      · cases q
    · cases q
  | .enum a, X, k, h, tg, e, q => by
    unfold ckI at q
    split at q
    · split at q
      · simp only [Bool.and_eq_true, decide_eq_true_eq] at q
        obtain ⟨⟨⟨rfl, q2⟩, q3⟩, q4⟩ := q
        exact ⟨si_enum (h.gl q2) (h.bi _ (by simp [bis])) q3 (ckE_ok a X k h _ q4), fun _ _ => rfl⟩
      · cases q
    · cases q
end
end En

/-! The engine, part t: the check of statements, and that it is enough. -/
namespace En
open PySem PySem.Spec PyProof.Rows L2

def noComp : Expr → Bool
  | .ListComp .. => false
  | .SetComp .. => false
  | .DictComp .. => false
  | _ => true
def noTup : Expr → Bool
  | .Tuple .. => false
  | _ => true
def isLoc (k : Ck) (x : Str) : Bool := match k.sc.names.lookup x with
  | some .local => true
  | _ => false
/-- several names at once: their places -/
def ckNs (k : Ck) : List CG → List Expr → Bool
  | [], es => match es with
    | [] => true
    | _ => false
  | .nm i :: gs, es => match es with
    | .Name x _ :: es => ckSt k i x && ckNs k gs es
    | _ => false
  | .tp g :: gs, es => match es with
    | e :: es => ckG k (.tp g) e && ns e && ckNs k gs es
    | [] => false
def isName (k : Ck) : Expr → Bool
  | .Name x _ => isLoc k x
  | _ => false
/-- a, b = x, y -/
def ckPar (k : Ck) (gs : List CG) (ts es : List Expr) : Bool := match gs, ts, es with
  | [.nm i, .nm j], [.Name x px, .Name y py], [a, b] =>
    if !([a, b].all (foldedForSure 8)) && isLoc k x && isLoc k y then decide (i ≠ j) && px.line == py.line && k.N[i]? == some x && k.N[j]? == some y && !([a, b].all (constantsAlone 8))
    else ckNs k gs ts && ([a, b].all (foldedForSure 8) || !ts.all (isName k))
  | [.nm i, .nm j, .nm l], [.Name x px, .Name y py, .Name z pz], [a, b, c] =>
    if !([a, b, c].all (foldedForSure 8)) && isLoc k x && isLoc k y && isLoc k z then decide (i ≠ j) && decide (i ≠ l) && decide (j ≠ l) && px.line == py.line && px.line == pz.line && k.N[i]? == some x && k.N[j]? == some y && k.N[l]? == some z && !([a, b, c].all (constantsAlone 8))
    else ckNs k gs ts && ([a, b, c].all (foldedForSure 8) || !ts.all (isName k))
  | gs, ts, es => ckNs k gs ts && (decide (4 ≤ ts.length) || !ts.all (isName k)) && decide (es.length = ts.length)
mutual
def ckS (k : Ck) : CS → Stmt → Bool
  | .set i c, s => match s with
    | .Assign [.Name x px] e pos => ckSt k i x && ckE k c e && (match c with
      | .lc .. => match e with
        | .ListComp _ _ scope ep => (isLoc k x && px.line == ep.line && !(scope.names.any fun (n, k) => n == x && (k == .local || k == .cell))) || !(isLoc k x && px.line == ep.line && !(scope.names.any fun (n, k) => n == x && (k == .local || k == .cell)))
        | _ => false
      | _ => noComp e)
    | _ => false
  | .setT g c, s => match s with
    | .Assign [.Tuple ts n p] e _ => ckG k g (.Tuple ts n p) && noTup e && ckE k c e
    | _ => false
  | .par gs cs, s => match s with
    | .Assign [.Tuple ts _ _] (.Tuple es _ _) _ => ckPar k gs ts es && ckEs k cs es && decide (ts.length ≤ 1000)
    | _ => false
  | .aug i op c, s => match s with
    | .AugAssign (.Name x _) o e _ => ckSt k i x && decide (op = o) && ckE k c e
    | _ => false
  | .stIx i ck c, s => match s with
    | .Assign [.Subscript (.Name x _) ek _] e _ => ckRd k i x && noSl ek && ckE k ck ek && ckE k c e
    | _ => false
  | .augIx i op ck c, s => match s with
    | .AugAssign (.Subscript (.Name x _) ek _) o e _ => ckRd k i x && noSl ek && decide (op = o) && ckE k ck ek && ckE k c e
    | _ => false
  | .app i c, s => match s with
    | .Expr (.Call (.Attribute (.Name x _) m ap) [e] [] cp) _ => ckRd k i x && decide (m = "append") && ap.endLine == cp.line && ns e && ckE k c e
    | _ => false
  | .ext i c, s => match s with
    | .Expr (.Call (.Attribute (.Name x _) m ap) [e] [] cp) _ => ckRd k i x && decide (m = "extend") && ap.endLine == cp.line && ns e && ckE k c e
    | _ => false
  | .setPop j i e, s => match e with
    | .so c => match s with
      | .Assign [.Name y _] (.Call (.Attribute (.Name x _) m ap) [e] [] cp) _ => ckSt k j y && ckRd k i x && decide (m = "pop") && ap.endLine == cp.line && ns e && ckE k c e
      | _ => false
    | .no => match s with
      | .Assign [.Name y _] (.Call (.Attribute (.Name x _) m ap) [] [] cp) _ => ckSt k j y && ckRd k i x && decide (m = "pop") && ap.endLine == cp.line
      | _ => false
  | .appPop _ _ _, _ => false
  | .expr c, s => match c with
    | .mth .stk _ _ => true
    | _ => match s with
      | .Expr e _ => noComp e && ckE k c e
      | _ => false
  | .ret c, s => match s with
    | .Return (some e) _ => ckE k c e
    | _ => false
  | .retN, s => match s with
    | .Return none _ => true
    | _ => false
  | .ife c a b, s => match s with
    | .If e x y _ => ckE k c e && ckSs k a x && ckSs k b y
    | _ => false
  | .forr g it body, s => match s with
    | .For tg iter b [] _ => ckG k g tg && ckI k it tg iter && ckSs k body b
    | _ => false
  | .whl c body, s => match s with
    | .While e b [] _ => ckE k c e && ckSs k body b
    | _ => false
  | .brk, s => match s with
    | .Break _ => true
    | _ => false
  | .cnt, s => match s with
    | .Continue _ => true
    | _ => false
  | .pas, s => match s with
    | .Pass _ => true
    | .Expr (.Constant (.str _) _ _) _ => true
    | _ => false
def ckSs (k : Ck) : List CS → List Stmt → Bool
  | [], ss => match ss with
    | [] => true
    | _ => false
  | c :: cs, ss => match ss with
    | s :: ss => ckS k c s && ckSs k cs ss
    | [] => false
end
variable {cl : Calls} {W : Nat}
theorem swapsNo {e : Expr} {t : Option Expr} {n : Nat} {env : PySem.Env} (h : noComp e = true) : swapsWith e t n env = pure false := by
  cases e <;> first | rfl | (simp [noComp] at h)
theorem swapsTup {ts : List Expr} {k : Nat} {p : Pos} {e : Expr} {n : Nat} {env : PySem.Env} : swapsWithSole [.Tuple ts k p] e n env = pure false := by cases e <;> rfl
theorem swapsSub {o i : Expr} {p : Pos} {e : Expr} {n : Nat} {env : PySem.Env} : swapsWithSole [.Subscript o i p] e n env = pure false := by cases e <;> rfl
theorem storesNo {ts : List Expr} {k : Nat} {p : Pos} {e : Expr} {env : PySem.Env} (h : noTup e = true) : swappedStores [.Tuple ts k p] e env = pure none := by
  cases e <;> first | rfl | (simp [noTup] at h)
theorem storesSub {o i : Expr} {p : Pos} {e : Expr} {env : PySem.Env} : swappedStores [.Subscript o i p] e env = pure none := by cases e <;> rfl
theorem swaps_lc {ee : Expr} {gs : List Comprehension} {scope : Scope} {pos px : Pos} {x : Str} {n : Nat} {env : PySem.Env} : swapsWith (.ListComp ee gs scope pos) (some (.Name x px)) n env =
    pure (env.blockKind == .function && env.kindOf x == some .local && px.line == pos.line && !(scope.names.any fun (n, k) => n == x && (k == .local || k == .cell))) := rfl
theorem sw_none {ts vs : List Expr} {k k2 : Nat} {p p2 : Pos} {env : PySem.Env} (h : vs.all (foldedForSure 8) = true ∨ 4 ≤ ts.length ∨ ∃ t ∈ ts, ∀ x pos, t = .Name x pos → (env.kindOf x == some .local) = false) :
    swappedStores [.Tuple ts k p] (.Tuple vs k2 p2) env = pure none := by
  unfold swappedStores
  simp only
  split
  · rfl
  · rename_i h1
    split
    · rfl
    · split
      · rfl
      · rename_i h3
        split
        · rfl
        · rename_i h4
          exfalso
          rcases h with h | h | ⟨t, ht, hn⟩
          · exact h4 h
          · apply h1
            have e2 : (ts.length == 2) = false := by simp; omega
            have e3 : (ts.length == 3) = false := by simp; omega
            rw [e2, e3]; rfl
          · apply h3
            rw [Bool.or_eq_true]
            refine .inl (bne_iff_ne.mpr (Nat.ne_of_lt (List.length_filterMap_lt_length_iff_exists.mpr ⟨t, ht, ?_⟩)))
            cases t with
            | Name x pos => simp only [hn x pos rfl, Bool.false_and, Bool.false_eq_true, if_false]
            | _ => rfl
def isSt : Expr → Bool
  | .Starred .. => true
  | _ => false
theorem nsF {a : Expr} (na : ns a = true) (h : isSt a = true) : False := by
  cases a <;> first | (simp [isSt] at h; done) | (simp [ns] at na; done)
theorem sw2 {x y : Str} {a b : Expr} {px py p p2 : Pos} {k k2 : Nat} {env : PySem.Env} (hk : env.blockKind = .function) (hx : env.kindOf x = some .local) (hy : env.kindOf y = some .local) (hl : px.line = py.line) (hne : x ≠ y) (na : ns a = true) (nb : ns b = true)
    (h1 : [a, b].all (foldedForSure 8) = false) (h2 : [a, b].all (constantsAlone 8) = false) : swappedStores [.Tuple [.Name x px, .Name y py] k p] (.Tuple [a, b] k2 p2) env = pure (some [x, y]) := by
  have nd : (y == x) = false := by simpa using Ne.symm hne
  have e3 : (Expr.Name x px).pos.line = px.line := rfl
  have e2 : (py.line == px.line) = true := by simp [hl]
  unfold swappedStores
  simp only
  split
  · rename_i q; exfalso; simp [hk] at q
  · split
    · rename_i q
      exfalso
      simp only [List.any_cons, List.any_nil, Bool.or_false, Bool.or_eq_true] at q
      rcases q with q | q
      · exact nsF na q
      · exact nsF nb q
    · simp only [h1, h2, List.head?_cons, Option.map_some, Option.getD_some, List.filterMap_cons, List.filterMap_nil, hx, hy, e3, e2]
      simp [List.eraseDups, List.eraseDupsBy, List.eraseDupsBy.loop, nd]
theorem sw3 {x y z : Str} {a b c : Expr} {px py pz p p2 : Pos} {k k2 : Nat} {env : PySem.Env} (hk : env.blockKind = .function) (hx : env.kindOf x = some .local) (hy : env.kindOf y = some .local) (hz : env.kindOf z = some .local) (hl : px.line = py.line) (hl2 : px.line = pz.line)
    (hne : x ≠ y) (hne2 : x ≠ z) (hne3 : y ≠ z) (na : ns a = true) (nb : ns b = true) (nc : ns c = true)
    (h1 : [a, b, c].all (foldedForSure 8) = false) (h2 : [a, b, c].all (constantsAlone 8) = false) : swappedStores [.Tuple [.Name x px, .Name y py, .Name z pz] k p] (.Tuple [a, b, c] k2 p2) env = pure (some [x, y, z]) := by
  have nd : (y == x) = false := by simpa using Ne.symm hne
  have nd2 : (z == x) = false := by simpa using Ne.symm hne2
  have nd3 : (z == y) = false := by simpa using Ne.symm hne3
  have e3 : (Expr.Name x px).pos.line = px.line := rfl
  have e2 : (py.line == px.line) = true := by simp [hl]
  have e4 : (pz.line == px.line) = true := by simp [hl2]
  unfold swappedStores
  simp only
  split
  · rename_i q; exfalso; simp [hk] at q
  · split
    · rename_i q
      exfalso
      simp only [List.any_cons, List.any_nil, Bool.or_false, Bool.or_eq_true] at q
      rcases q with q | q | q
      · exact nsF na q
      · exact nsF nb q
      · exact nsF nc q
    · simp only [h1, h2, List.head?_cons, Option.map_some, Option.getD_some, List.filterMap_cons, List.filterMap_nil, hx, hy, hz, e3, e2, e4]
      simp [List.eraseDups, List.eraseDupsBy, List.eraseDupsBy.loop, nd, nd2, nd3]
theorem nodup_ne {N : List Str} (h : N.Nodup) {i j : Nat} {x y : Str} (hi : N[i]? = some x) (hj : N[j]? = some y) (n : i ≠ j) : x ≠ y := fun e => by
  subst e
  obtain ⟨l1, e1⟩ := List.getElem?_eq_some_iff.mp hi
  obtain ⟨l2, e2⟩ := List.getElem?_eq_some_iff.mp hj
  have hp := List.pairwise_iff_getElem.mp h
  rcases Nat.lt_or_gt_of_ne n with q | q
  · exact hp i j l1 l2 q (e1.trans e2.symm)
  · exact hp j i l2 l1 q (e2.trans e1.symm)
theorem ckNs_ok {X : Cx} {k : Ck} (h : CkOk X cl k) : ∀ (gs : List CG) (ts : List Expr), ckNs k gs ts = true → GPs X gs ts
  | [], ts, q => by
    cases ts with
    | nil => exact gp_nil
    | cons _ _ => simp [ckNs] at q
  | .nm i :: gs, ts, q => by
    unfold ckNs at q
    split at q
    · simp only [Bool.and_eq_true] at q
      exact gp_nm h.nd (h.st q.1) (ckNs_ok h gs _ q.2)
    · cases q
  | .tp g :: gs, ts, q => by
    cases ts with
    | nil => simp [ckNs] at q
    | cons e es =>
      simp only [ckNs, Bool.and_eq_true] at q
      exact gp_tp q.1.2 (ckG_ok h _ _ q.1.1) (ckNs_ok h gs _ q.2)
theorem isLoc_of {X : Cx} {k : Ck} (h : CkOk X cl k) {x : Str} (q : isLoc k x = true) : X.env.scope.names.lookup x = some .local := by
  rw [h.sc]
  unfold isLoc at q
  split at q
  · assumption
  · cases q
theorem notLoc_of {X : Cx} {k : Ck} (h : CkOk X cl k) {t : Expr} (q : isName k t = false) : ∀ x pos, t = .Name x pos → (X.env.kindOf x == some .local) = false := fun x pos e => by
  subst e
  simp only [isName] at q
  unfold isLoc at q
  show (X.env.scope.names.lookup x == some .local) = false
  rw [h.sc]
  split at q
  · cases q
  · rename_i n
    cases e : k.sc.names.lookup x with
    | none => rfl
    | some v => cases v <;> first | rfl | exact absurd e n
theorem parT {X : Cx} {k : Ck} (h : CkOk X cl k) {gs : List CG} {cs : CEs} {ts es : List Expr} {kt k2 : Nat} {pt pt2 pos : Pos} (hg : ckNs k gs ts = true) (hz : ts.length ≤ 1000) (hl : es.length = ts.length) (hle : cs.len = es.length) (ha : SAN X cl cs es) (hq : es.all (foldedForSure 8) = true ∨ 4 ≤ ts.length ∨ ts.all (isName k) = false) :
    SS X cl W (.par gs cs) (.Assign [.Tuple ts kt pt] (.Tuple es k2 pt2) pos) := by
  refine s_parT h.calm (ckNs_ok h gs ts hg) hz hl hle ha (sw_none ?_) swapsTup
  rcases hq with hq | hq | hq
  · exact .inl hq
  · exact .inr (.inl hq)
  · refine .inr (.inr ?_)
    rw [List.all_eq_false] at hq
    obtain ⟨t, m, q⟩ := hq
    exact ⟨t, m, notLoc_of h (by simpa using q)⟩
theorem ckPar_ok {X : Cx} {k : Ck} (h : CkOk X cl k) {gs : List CG} {cs : CEs} {ts es : List Expr} {kt k2 : Nat} {pt pt2 pos : Pos} (q : ckPar k gs ts es = true) (hz : ts.length ≤ 1000) (hc : ckEs k cs es = true) :
    SS X cl W (.par gs cs) (.Assign [.Tuple ts kt pt] (.Tuple es k2 pt2) pos) := by
  obtain ⟨_, ha, hns, hlen⟩ := ckEs_ok cs X k h es hc
  unfold ckPar at q
  split at q
  · rename_i i j x px y py a b
    split at q
    · rename_i c
      simp only [Bool.and_eq_true, Bool.not_eq_true', decide_eq_true_eq, beq_iff_eq] at c q
      obtain ⟨⟨c1, c2⟩, c3⟩ := c
      obtain ⟨⟨⟨⟨q1, q2⟩, q3⟩, q4⟩, q5⟩ := q
      simp only [List.all_cons, List.all_nil, Bool.and_true, Bool.and_eq_true] at hns
      match cs, hlen, ha with
      | .cons u (.cons v .nil), _, ha =>
        exact s_par2 h.calm h.nd (by rw [h.N]; exact q3) (by rw [h.N]; exact q4) q1 (isLoc_of h c2) (isLoc_of h c3) ha
          (sw2 h.kind (isLoc_of h c2) (isLoc_of h c3) q2 (nodup_ne (by rw [← h.N]; exact h.nd) q3 q4 q1) hns.1 hns.2 c1 q5) swapsTup
      | .nil, hl, _ => simp [CEs.len] at hl
      | .cons _ .nil, hl, _ => simp [CEs.len] at hl
      | .cons _ (.cons _ (.cons _ _)), hl, _ => simp [CEs.len] at hl
    · rw [Bool.and_eq_true, Bool.or_eq_true] at q
      refine parT h q.1 hz rfl hlen ha ?_
      rcases q.2 with q | q
      · exact .inl q
      · exact .inr (.inr (by rw [Bool.not_eq_true'] at q; exact q))
  · rename_i i j l x px y py z pz a b c0
    split at q
    · rename_i c
      simp only [Bool.and_eq_true, Bool.not_eq_true', decide_eq_true_eq, beq_iff_eq] at c q
      obtain ⟨⟨⟨c1, c2⟩, c3⟩, c4⟩ := c
      obtain ⟨⟨⟨⟨⟨⟨⟨⟨q1, q2⟩, q3⟩, q4⟩, q5⟩, q6⟩, q7⟩, q8⟩, q9⟩ := q
      simp only [List.all_cons, List.all_nil, Bool.and_true, Bool.and_eq_true] at hns
      have nd : k.N.Nodup := by rw [← h.N]; exact h.nd
      match cs, hlen, ha with
      | .cons u (.cons v (.cons w .nil)), _, ha =>
        exact s_par3 h.calm h.nd (by rw [h.N]; exact q6) (by rw [h.N]; exact q7) (by rw [h.N]; exact q8) q1 q2 q3 (isLoc_of h c2) (isLoc_of h c3) (isLoc_of h c4) ha
          (sw3 h.kind (isLoc_of h c2) (isLoc_of h c3) (isLoc_of h c4) q4 q5 (nodup_ne nd q6 q7 q1) (nodup_ne nd q6 q8 q2) (nodup_ne nd q7 q8 q3) hns.1 hns.2.1 hns.2.2 c1 q9) swapsTup
      | .nil, hl, _ => simp [CEs.len] at hl
      | .cons _ .nil, hl, _ => simp [CEs.len] at hl
      | .cons _ (.cons _ .nil), hl, _ => simp [CEs.len] at hl
      | .cons _ (.cons _ (.cons _ (.cons _ _))), hl, _ => simp [CEs.len] at hl
    · rw [Bool.and_eq_true, Bool.or_eq_true] at q
      refine parT h q.1 hz rfl hlen ha ?_
      rcases q.2 with q | q
      · exact .inl q
      · exact .inr (.inr (by rw [Bool.not_eq_true'] at q; exact q))
  · rw [Bool.and_eq_true, Bool.and_eq_true, decide_eq_true_eq, Bool.or_eq_true, decide_eq_true_eq] at q
    refine parT h q.1.1 hz q.2 hlen ha ?_
    rcases q.1.2 with q | q
    · exact .inr (.inl q)
    · exact .inr (.inr (by rw [Bool.not_eq_true'] at q; exact q))
theorem sub_asg {o i : Expr} {p : Pos} {env : PySem.Env} (h : noSl i = true) : ∀ v, assign (.Subscript o i p) env v = (do
      let ov ← holding [v] (eval o env)
      let iv ← holding [v, ov] (eval i env)
      standAt p
      holding [v, ov, iv] (setItem ov iv v)
      release [v, ov, iv] []) := by
  intro v
  cases i <;> first | rfl | (simp [noSl] at h)
theorem sub_aug {i : Expr} (h : noSl i = true) : ∀ ov iv new, augStore i ov iv new = (do holding [new, ov, iv] (setItem ov iv new); release [new, ov, iv] []; pure .next) := by
  intro ov iv new
  cases i <;> first | rfl | (simp [noSl] at h)
/-- .. with what a statement asks -/
structure CkOkS (X : Cx) (cl : Calls) (k : Ck) : Prop extends CkOk X cl k where
  hp : PassesOwn (model X.prog X.w) X.A X.env X.xe
mutual
theorem ckS_ok {X : Cx} {k : Ck} (h : CkOkS X cl k) : ∀ (c : CS) (s : Stmt), ckS k c s = true → SS X cl W c s
  | .set i c, s, q => by
    unfold ckS at q
    split at q
    · simp only [Bool.and_eq_true] at q
      obtain ⟨⟨q1, q2⟩, q3⟩ := q
      have ho := h.toCkOk.st q1
      have he := ckE_ok c X k h.toCkOk _ q2
      rename_i x px e pos
      by_cases nc : noComp e = true
      · exact s_set h.nd ho he (swapsNo nc)
      · split at q3
        · rename_i g it ifs elt own
          split at q3
          · rename_i ee gs scope ep
            clear q3
            unfold ckE at q2
            split at q2
            · rename_i e1
              cases e1
              simp only [Bool.and_eq_true, decide_eq_true_eq] at q2
              obtain ⟨⟨⟨⟨⟨⟨p1, p2⟩, p3⟩, p4⟩, p5⟩, p6⟩, p7⟩ := q2
              have ok := blkOk_by p1
              have hb := fun s H C cl' fp => h.toCkOk.blk ok.kind s H C cl' fp
              have hgs : ∀ i ∈ gsl g, i ∈ (ownOf k.N own).map (·.2) := fun i m => by
                rw [p2]
                have := List.all_eq_true.mp p3 i m
                simpa using this
              obtain ⟨i1, i2⟩ := ckI_ok it X k h.toCkOk _ _ p4
              cases hsw : (X.env.blockKind == .function && X.env.kindOf x == some .local && px.line == ep.line && !(scope.names.any fun (n, k) => n == x && (k == .local || k == .cell))) with
              | false => exact s_set h.nd ho he (by rw [swaps_lc, hsw])
              | true =>
                have hl : X.env.scope.names.lookup x = some .local := by
                  simp only [Bool.and_eq_true] at hsw
                  show X.env.kindOf x = some .local
                  simpa using hsw.1.1.2
                rw [← p2]
                exact s_setLc h.calm h.nd ho hl (by rw [swaps_lc, hsw]) (by rw [h.N, h.sc]; exact ok) hgs i1 (fun s H C cl' fp => ckG_ok (hb s H C cl' fp) g _ p5) (fun s H C cl' fp => ckTs_ok ifs _ _ (hb s H C cl' fp) _ p6) (fun s H C cl' fp => ckE_ok elt _ _ (hb s H C cl' fp) _ p7) (fun x => i2 _ x)
            · cases q2
          · cases q3
        · exact absurd q3 nc
    · cases q
  | .setT g c, s, q => by
    unfold ckS at q
    split at q
    · simp only [Bool.and_eq_true] at q
      obtain ⟨⟨q1, q2⟩, q3⟩ := q
      exact s_setT (ckG_ok h.toCkOk g _ q1) rfl (ckE_ok c X k h.toCkOk _ q3) swapsTup (storesNo q2)
    · cases q
  | .par gs cs, s, q => by
    unfold ckS at q
    split at q
    · simp only [Bool.and_eq_true, decide_eq_true_eq] at q
      exact ckPar_ok h.toCkOk q.1.1 q.2 q.1.2
    · cases q
  | .aug i op c, s, q => by
    unfold ckS at q
    split at q
    · simp only [Bool.and_eq_true, decide_eq_true_eq] at q
      obtain ⟨⟨q1, rfl⟩, q3⟩ := q
      exact s_aug h.nd (h.toCkOk.st q1) (ckE_ok c X k h.toCkOk _ q3)
    · cases q
  | .stIx i ck c, s, q => by
    unfold ckS at q
    split at q
    · simp only [Bool.and_eq_true] at q
      obtain ⟨⟨⟨q1, q2⟩, q3⟩, q4⟩ := q
      exact s_stIx h.toCkOk.hu (h.toCkOk.rd q1) (ckE_ok ck X k h.toCkOk _ q3) (ckE_ok c X k h.toCkOk _ q4) swapsSub storesSub (sub_asg q2)
    · cases q
  | .augIx i op ck c, s, q => by
    unfold ckS at q
    split at q
    · simp only [Bool.and_eq_true, decide_eq_true_eq] at q
      obtain ⟨⟨⟨⟨q1, q2⟩, rfl⟩, q3⟩, q4⟩ := q
      exact s_augIx (h.toCkOk.rd q1) (ckE_ok ck X k h.toCkOk _ q3) (ckE_ok c X k h.toCkOk _ q4) (sub_aug q2)
    · cases q
  | .app i c, s, q => by
    unfold ckS at q
    split at q
    · simp only [Bool.and_eq_true, decide_eq_true_eq] at q
      obtain ⟨⟨⟨⟨q1, rfl⟩, q2⟩, q3⟩, q4⟩ := q
      exact s_app (h.toCkOk.rd q1) (ckE_ok c X k h.toCkOk _ q4) q3 rfl q2
    · cases q
  | .ext i c, s, q => by
    unfold ckS at q
    split at q
    · simp only [Bool.and_eq_true, decide_eq_true_eq] at q
      obtain ⟨⟨⟨⟨q1, rfl⟩, q2⟩, q3⟩, q4⟩ := q
      exact s_ext (h.toCkOk.rd q1) (ckE_ok c X k h.toCkOk _ q4) q3 rfl q2
    · cases q
  | .setPop j i e, s, q => by
    cases e with
    | no =>
      unfold ckS at q
      simp only at q
      split at q
      · simp only [Bool.and_eq_true, decide_eq_true_eq] at q
        obtain ⟨⟨⟨q0, q1⟩, rfl⟩, q2⟩ := q
        exact s_setPop0 h.nd (h.toCkOk.st q0) (h.toCkOk.rd q1) (swapsNo rfl) rfl q2
      · cases q
    | so c =>
      unfold ckS at q
      simp only at q
      split at q
      · simp only [Bool.and_eq_true, decide_eq_true_eq] at q
        obtain ⟨⟨⟨⟨⟨q0, q1⟩, rfl⟩, q2⟩, q3⟩, q4⟩ := q
        exact s_setPop h.nd (h.toCkOk.st q0) (h.toCkOk.rd q1) (ckE_ok c X k h.toCkOk _ q4) q3 (swapsNo rfl) rfl q2
      · cases q
  | .appPop _ _ _, s, q => by simp [ckS] at q
  | .expr c, s, q => by
    unfold ckS at q
    split at q
    · exact s_stk
    · split at q
      · simp only [Bool.and_eq_true] at q
        exact s_expr (ckE_ok c X k h.toCkOk _ q.2) (swapsNo q.1)
      · cases q
  | .ret c, s, q => by
    unfold ckS at q
    split at q
    · exact s_ret (ckE_ok c X k h.toCkOk _ q)
    · cases q
  | .retN, s, q => by
    unfold ckS at q
    split at q
    · exact s_retN
    · cases q
  | .ife c a b, s, q => by
    unfold ckS at q
    split at q
    · simp only [Bool.and_eq_true] at q
      exact s_ife (ckE_ok c X k h.toCkOk _ q.1.1) (ckSs_ok h a _ q.1.2) (ckSs_ok h b _ q.2)
    · cases q
  | .forr g it body, s, q => by
    unfold ckS at q
    split at q
    · simp only [Bool.and_eq_true] at q
      obtain ⟨i1, i2⟩ := ckI_ok it X k h.toCkOk _ _ q.1.2
      exact s_for h.hp h.calm i1 (ckG_ok h.toCkOk g _ q.1.1) (ckSs_ok h body _ q.2) (fun x => i2 _ x)
    · cases q
  | .whl c body, s, q => by
    unfold ckS at q
    split at q
    · simp only [Bool.and_eq_true] at q
      exact s_whl h.hp (ckE_ok c X k h.toCkOk _ q.1) (ckSs_ok h body _ q.2)
    · cases q
  | .brk, s, q => by
    unfold ckS at q
    split at q
    · exact s_brk
    · cases q
  | .cnt, s, q => by
    unfold ckS at q
    split at q
    · exact s_cnt
    · cases q
  | .pas, s, q => by
    unfold ckS at q
    split at q
    · exact s_pas
    · exact s_doc
    · cases q
theorem ckSs_ok {X : Cx} {k : Ck} (h : CkOkS X cl k) : ∀ (c : List CS) (s : List Stmt), ckSs k c s = true → SSs X cl W c s
  | [], s, q => by
    cases s with
    | nil => exact ss_nil
    | cons _ _ => simp [ckSs] at q
  | c :: cs, s, q => by
    cases s with
    | nil => simp [ckSs] at q
    | cons s ss =>
      simp only [ckSs, Bool.and_eq_true] at q
      exact ss_cons (ckS_ok h c s q.1) (ckSs_ok h cs ss q.2)
end
end En

/-! The engine, part u: the module's defs together. -/
namespace En
open PySem PySem.Spec PyProof.Rows L2

/-- a def of the text with its reading -/
structure DefT where
  name : Str
  st : Stmt
  N : List Str
  ps : List Str
  fd : FDef
def fnsOf (T : List DefT) : List (Str × Nat) := T.map fun t => (t.name, t.fd.np)
def ckOf (T : List DefT) (cns : List Str) (t : DefT) : Ck := ⟨defScope t.st, (defScope t.st).names, t.N, fnsOf T, cns⟩
/-- what must be decided of a def -/
structure DefOk (T : List DefT) (cns : List Str) (t : DefT) : Prop where
  sc : FnScope t.N t.ps (defScope t.st)
  ck : ckSs (ckOf T cns t) t.fd.body (defBody t.st) = true
  np : t.ps.length = t.fd.np
  ns : t.N.length = t.fd.ns
/-- what is seen of the heap behind the top -/
structure Seen (K : PySem.W.Frag) (w : World) (mg : Str → Option Value) (T : List DefT) (cns : List Str) (con : Nat → D) : Prop where
  fun_ : ∀ (i : Nat) (t : DefT), T[i]? = some t → ∃ f fd, Fun K t.name t.name t.st f fd ∧ mg t.name = some (.ref f) ∧ Binds K fd t.ps []
  bi : ∀ x ∈ bis, mg x = none
  con : ∀ (i : Nat) (x : Str), cns[i]? = some x → ∃ u v, mg x = some u ∧ RelV v u ∧ ∀ bx P H, Rep ⟨K, w, mg, bx⟩ P H (con i) v
section
variable {PR : Program} {w : World} {K : PySem.W.Frag} {mg : Str → Option Value} {base : Heap} {T : List DefT} {cns : List Str} {con : Nat → D} {pr : Nat → Option (List D → M D)} {W : Nat} {c : Nat}
theorem start_get {N : List Str} {vs : List V} {i : Nat} {v : V} (h : vs[i]? = some v) : (L2.start N vs)[i]? = some (some v) := by
  unfold L2.start
  have hl : i < vs.length := by obtain ⟨q, _⟩ := List.getElem?_eq_some_iff.mp h; exact q
  rw [List.getElem?_append_left (by simpa using hl), List.getElem?_map, h]; rfl
theorem env0_get {fd : FDef} {args : List D} {i : Nat} {d : D} {f : Bool} (h : (env0 fd args)[i]? = some (some (d, f))) : args[i]? = some d ∧ f = false := by
  unfold env0 at h
  by_cases hl : i < args.length
  · rw [List.getElem?_append_left (by simpa using hl), List.getElem?_map] at h
    cases q : args[i]? with
    | none => rw [q] at h; cases h
    | some e => rw [q] at h; simp at h; exact ⟨by rw [h.1], h.2⟩
  · rw [List.getElem?_append_right (by simpa using hl)] at h
    rw [List.getElem?_replicate] at h
    split at h <;> cases h
theorem body_ok {cl : Calls} {t : DefT} {f : Addr} {fd : FuncData} {k : Nat} (ok : DefOk T cns t) (F : Fun K t.name t.name t.st f fd) (bi : ∀ x ∈ bis, mg x = none)
    (con_ : ∀ (i : Nat) (x : Str), cns[i]? = some x → ∃ u v, mg x = some u ∧ RelV v u ∧ ∀ bx P H, Rep ⟨K, w, mg, bx⟩ P H (cl.con i) v)
    (fns : ∀ (g : Nat) (t' : DefT), T[g]? = some t' → ∃ a fd' ps, FnOk PR w K mg base CX0 k a fd' ps (spD K w mg t'.fd.np (cl.fn g)) ∧ mg t'.name = some (.ref a) ∧ PySem.W.keepIn K (.ref a) = true ∧ Binds K fd' ps []) (g : List D → M D)
    (hg : ∀ ds b r, g ds b = some r → ds.length = t.fd.np ∧ ∃ x, xss cl W t.fd.body (env0 t.fd ds) b = some x ∧ (match x with | (.ret d, _, b') => r = (d, b') | (.nxt, _, b') => r = (.non, b') | _ => False)) :
    FnOk PR w K mg base CX0 (k + 1) f fd t.ps (spD K w mg t.fd.np g) := by
  refine F.ok ok.sc (fun vs H Q E h => by rw [ok.np]; exact h.1) fun cdv A outer s H vs Q E hr h => ?_
  obtain ⟨hl, bx, P, bs, ds, d, bs', hb, nob, hrep, hf, hk⟩ := h
  have room := hr
  have X0 : CkOkS (cxOf CX0 PR w K mg base t.N t.name (defScope t.st) f cdv A outer s H E).nox cl (ckOf T cns t) :=
    { sc := rfl
      kind := by
        show (envOfC t.name (defScope t.st) s.heap.objs.size f cdv).blockKind = .function
        unfold Env.blockKind
        have : (envOfC t.name (defScope t.st) s.heap.objs.size f cdv).scope.kind = .function := ok.sc.kind
        rw [this]; rfl
      N := rfl
      nd := ok.sc.nd
      calm := rfl
      hu := by have := room.un; show (A.deeper _).units + 65 < cLine; omega
      fn := fun _ _ => rfl
      bi := bi
      fa := fun g x np e => by
        unfold ckOf fnsOf at e
        simp only [List.getElem?_map, Option.map_eq_some_iff, Prod.mk.injEq] at e
        obtain ⟨t', e1, rfl, rfl⟩ := e
        obtain ⟨a, fd', ps, h1, h2, h3, h4⟩ := fns g t' e1
        exact ⟨⟨k, a, fd', ps, h1, room, h2, h3, h4⟩⟩
      co := fun i x e => ⟨con_ i x e⟩
      hp := PassesOwn.never }
  refine ⟨_, (ckSs_ok (W := W) X0 t.fd.body (defBody t.st) ok.ck).run, ?_⟩
  obtain ⟨hnp, x, hx, hm⟩ := hg ds bs _ hf
  refine ⟨⟨bx, H, P, fun _ => False, H, none⟩, bx, P, env0 t.fd ds, bs, x, ⟨.refl hb, fun a p => ⟨.inl p, nob a p⟩, fun i d f e => ?_, fun i j d e a e1 e2 _ _ => ?_, ?_, fun a o z => z.elim, fun a o e z => e, fun p e => by cases e⟩, hx, ?_⟩
  · obtain ⟨e1, rfl⟩ := env0_get e
    obtain ⟨v, e2, rv⟩ := hrep.get e1
    exact ⟨v, start_get e2, fun _ => rv, fun z => by cases z⟩
  · exact absurd (env0_get e1).2 (by simp)
  · have l1 := hrep.length
    unfold env0 L2.start
    rw [List.length_append, List.length_append, List.length_map, List.length_map, List.length_replicate, List.length_replicate, ← ok.ns]
    rw [← hnp, ← l1]
    exact Nat.le_refl _
  · obtain ⟨fl, env, b'⟩ := x
    cases fl with
    | ret d' =>
      simp only [Prod.mk.injEq] at hm
      obtain ⟨rfl, rfl⟩ := hm
      exact fun v H' bx' e r => hk v H' bx' e r
    | nxt =>
      simp only [Prod.mk.injEq] at hm
      obtain ⟨rfl, rfl⟩ := hm
      exact fun bx' P' σ' H' st => hk .non H' bx' st.post (by simp only [Rep])
    | brk => exact hm.elim
    | cnt => exact hm.elim
/-- all the defs, to any depth -/
theorem table (sn : Seen K w mg T cns con) (ok : ∀ (i : Nat) (t : DefT), T[i]? = some t → pr i = none → DefOk T cns t)
    (prim : ∀ (i : Nat) (t : DefT) (f : List D → M D), T[i]? = some t → pr i = some f → ∀ a fd, Fun K t.name t.name t.st a fd → Binds K fd t.ps [] → mg t.name = some (.ref a) → ∃ ps, Binds K fd ps [] ∧ FnOk PR w K mg base CX0 c a fd ps (spD K w mg t.fd.np f)) :
    ∀ (n g : Nat) (t : DefT), T[g]? = some t → ∃ a fd ps, FnOk PR w K mg base CX0 (n + c) a fd ps (spD K w mg t.fd.np (callN (T.map (·.fd)) con pr W n g)) ∧ Fun K t.name t.name t.st a fd ∧ mg t.name = some (.ref a) ∧ Binds K fd ps [] ∧ (pr g = none → ps = t.ps) := by
  intro n
  induction n with
  | zero =>
    intro g t e
    obtain ⟨a, fd, F, m, b⟩ := sn.fun_ g t e
    have no : ∀ vs H Q E, ¬spD K w mg t.fd.np (callN (T.map (·.fd)) con pr W 0 g) vs H Q E := by
      rintro vs H Q E ⟨_, _, _, _, _, _, _, _, _, _, h, _⟩
      simp [callN] at h
    exact ⟨a, fd, t.ps, ⟨fun vs H Q E h => (no _ _ _ _ h).elim, fun A outer s H args us vs Q E _ _ _ _ h => (no _ _ _ _ h).elim⟩, F, m, b, fun _ => rfl⟩
  | succ n ih =>
    intro g t e
    obtain ⟨a, fd, F, m, b⟩ := sn.fun_ g t e
    cases hp : pr g with
    | some f =>
      obtain ⟨ps, b2, ok2⟩ := prim g t f e hp a fd F b m
      have ef : callN (T.map (·.fd)) con pr W (n + 1) g = f := by
        funext args bb
        simp only [callN, hp]
      rw [ef]
      exact ⟨a, fd, ps, ok2.mono (by omega), F, m, b2, fun z => by cases z⟩
    | none =>
      have h := body_ok (cl := ⟨callN (T.map (·.fd)) con pr W n, con⟩) (W := W) (PR := PR) (base := base) (k := n + c) (w := w) (ok g t e hp) F sn.bi sn.con (fun g' t' e' => ?_) (callN (T.map (·.fd)) con pr W (n + 1) g) fun ds bb r hr => ?_
      · exact ⟨a, fd, t.ps, by rw [Nat.succ_add]; exact h, F, m, b, fun _ => rfl⟩
      · obtain ⟨a', fd', ps', h1, h2, h3, h4, _⟩ := ih g' t' e'
        exact ⟨a', fd', ps', h1, h3, h2.kp, h4⟩
      · have e2 : (T.map (·.fd))[g]? = some t.fd := by rw [List.getElem?_map, e]; rfl
        simp only [callN, hp, e2] at hr
        split at hr
        · rename_i hl
          refine ⟨hl, ?_⟩
          split at hr
          · rename_i d env b' hx
            simp only [Option.some.injEq] at hr
            exact ⟨_, hx, hr.symm⟩
          · rename_i env b' hx
            simp only [Option.some.injEq] at hr
            exact ⟨_, hx, hr.symm⟩
          · cases hr
        · cases hr
end
end En

/-! The engine, part w: the box (three defs that every law has). -/
namespace En
open PySem PySem.Spec PyProof.Rows L2

/-! ### the text of the three, whatever its places -/
def nm (x : Str) : Expr → Bool
  | .Name y _ => y == x
  | _ => false
def ki (n : Int) : Expr → Bool
  | .Constant (.int m) _ _ => m == n
  | _ => false
def sub (a b : Expr → Bool) : Expr → Bool
  | .Subscript x y _ => a x && b y
  | _ => false
def bo (op : Operator) (a b : Expr → Bool) : Expr → Bool
  | .BinOp x o y _ => a x && decide (o = op) && b y
  | _ => false
def cl1 (f : Str) (a : Expr → Bool) : Expr → Bool
  | .Call (.Name y _) [x] [] _ => y == f && a x && ns x
  | _ => false
def asg (x : Str) (a : Expr → Bool) : Stmt → Bool
  | .Assign [.Name y _] e _ => y == x && a e && noComp e
  | _ => false
def asgI (x : Str) (k : Int) (a : Expr → Bool) : Stmt → Bool
  | .Assign [.Subscript (.Name y _) (.Constant (.int m) _ _) _] e _ => y == x && m == k && a e
  | _ => false
def popc (x : Str) : Expr → Bool
  | .Call (.Attribute (.Name y _) m p) [.Constant (.int 0) _ _] [] q => y == x && decide (m = "pop") && p.endLine == q.line
  | _ => false
def cmp1 (op : CmpOp) (a b : Expr → Bool) : Expr → Bool
  | .Compare x [o] [y] _ => a x && decide (o = op) && b y && !behindInMarks o y
  | _ => false
def ifx (c a b : Expr → Bool) : Expr → Bool
  | .IfExp x y z _ => c x && a y && b z
  | _ => false
def ngk (n : Int) : Expr → Bool
  | .UnaryOp o (.Constant (.int m) _ _) _ => decide (o = .USub) && m == n
  | _ => false
def ifs (c : Expr → Bool) (a : List Stmt → Bool) : Stmt → Bool
  | .If x b [] _ => c x && a b
  | _ => false
def rt (a : Expr → Bool) : Stmt → Bool
  | .Return (some e) _ => a e
  | _ => false
def sq : List (Stmt → Bool) → List Stmt → Bool
  | [], ss => ss.isEmpty
  | p :: ps, ss => match ss with
    | s :: ss => p s && sq ps ss
    | [] => false
def lin (a : Expr → Bool) (k c : Int) (m : Int) : Expr → Bool := bo .Mod (cl1 "int" (bo .Add (bo .Mult a (ki k)) (ki c))) (ki m)
def isLoad : List Stmt → Bool := sq [
  asg "cells" (sub (nm "box") (ki 0)),
  ifs (cmp1 .Gt (cl1 "len" (nm "cells")) (ki 0)) (sq [
    asg "cell" (cl1 "int" (popc "cells")),
    asg "size" (ifx (cmp1 .GtE (nm "cell") (ki 0)) (bo .Mult (ki 2) (nm "cell")) (bo .Sub (bo .Mult (ngk 2) (nm "cell")) (ki 1))),
    ifs (cmp1 .GtE (nm "size") (ki 1000000000000000000)) (sq [rt (nm "size")]),
    asgI "box" 2 (bo .Mod (cl1 "int" (bo .Add (bo .Add (bo .Mult (sub (nm "box") (ki 2)) (ki 69621)) (bo .Mult (nm "size") (ki 48271))) (ki 11))) (ki 2147483647))]),
  asg "first" (lin (sub (nm "box") (ki 2)) 48271 17 2147483629),
  asg "second" (lin (nm "first") 69621 5 2147483587),
  asgI "box" 2 (lin (nm "second") 40692 3 2147483563),
  rt (bo .Add (bo .Add (bo .Mult (nm "first") (ki 4611686014132420609)) (bo .Mult (nm "second") (ki 2147483647))) (sub (nm "box") (ki 2)))]
def cl2 (f : Str) (a : Expr → Bool) : Expr → Bool := cl1 f a
def isDraw : List Stmt → Bool := sq [
  ifs (cmp1 .Lt (sub (nm "box") (ki 1)) (nm "many")) (sq [asgI "box" 1 (cl1 "_law_load" (nm "box"))]),
  asg "digit" (bo .Mod (cl1 "int" (sub (nm "box") (ki 1))) (nm "many")),
  asgI "box" 1 (bo .FloorDiv (sub (nm "box") (ki 1)) (nm "many")),
  rt (nm "digit")]
def slc63 : Expr → Bool
  | .Subscript (.Name y _) (.Slice none (some (.Constant (.int 63) _ _)) none _) _ => y == "script"
  | _ => false
def isBox : List Stmt → Bool := sq [fun s => match s with
  | .Return (some (.List [a, b, c] _)) _ => cl1 "list" slc63 a && ki 0 b && bo .Add (ki 4711) (cl1 "len" (nm "script")) c
  | _ => false]
def lcl (sc : Scope) (x : Str) : Bool := match sc.names.lookup x with
  | some .local => true
  | _ => false
def glb (sc : Scope) (x : Str) : Bool := match sc.names.lookup x with
  | some .globalImplicit => true
  | _ => false
section
variable {X : Cx}
/-! ### a value, told: the expression answers v and leaves all as it is -/
def tIs (v : V) (P : L2.St → Hp → Prop) : TE := fun σ H Q => P σ H ∧ Q v H
/-- reading of an int expression: from a condition its int -/
structure IE (X : Cx) (e : Expr) (f : L2.St → Hp → Int → Prop) : Prop where
  run : PE X e (fun σ H Q => ∃ i, f σ H i ∧ Q (.int i) H)
structure NX (X : Cx) (x : Str) (i : Nat) : Prop where
  ix : X.N[i]? = some x
  loc : X.env.scope.names.lookup x = some .local
  d1 : (x == ("__debug__" : Str)) = false
  d2 : (x == ("__classdict__" : Str)) = false
theorem NX.pe {x : Str} {i : Nat} (h : NX X x i) {e : Expr} (q : nm x e = true) : PE X e (tVar i) := by
  cases e with
  | Name y p => simp only [nm, beq_iff_eq] at q; subst q; exact pe_var h.ix (.inl h.loc) h.d1 h.d2
  | _ => simp [nm] at q
theorem NX.ie {x : Str} {i : Nat} (h : NX X x i) {e : Expr} (q : nm x e = true) : IE X e (fun σ _ n => σ[i]? = some (some (.int n))) := by
  refine ⟨PE.imp (h.pe q) fun σ H Q ⟨n, h1, h2⟩ => ⟨_, h1, h2⟩⟩
theorem ie_ki {n : Int} {e : Expr} (q : ki n e = true) : IE X e (fun _ _ m => m = n) := by
  unfold ki at q
  split at q
  · simp only [beq_iff_eq] at q
    subst q
    exact ⟨PE.imp pe_int fun σ H Q ⟨m, h1, h2⟩ => by subst h1; exact h2⟩
  · cases q
theorem ie_ngk {n : Int} {e : Expr} (q : ngk n e = true) : IE X e (fun _ _ m => m = -n) := by
  unfold ngk at q
  split at q
  · simp only [Bool.and_eq_true, decide_eq_true_eq, beq_iff_eq] at q
    obtain ⟨rfl, rfl⟩ := q
    exact ⟨PE.imp (pe_un un_neg pe_int) fun σ H Q ⟨m, h1, h2⟩ => by subst h1; exact ⟨_, rfl, h2⟩⟩
  · cases q
theorem ie_bo {op : Operator} {C : Int → Int → Prop} {g : Int → Int → Int} (ho : OpR X (binaryOp op) (rI C fun i j => .int (g i j))) {pa pb : Expr → Bool} {fa fb : L2.St → Hp → Int → Prop} (ha : ∀ e, pa e = true → IE X e fa) (hb : ∀ e, pb e = true → IE X e fb)
    {e : Expr} (q : bo op pa pb e = true) : IE X e (fun σ H n => ∃ i j, fa σ H i ∧ fb σ H j ∧ C i j ∧ n = g i j) := by
  unfold bo at q
  split at q
  · simp only [Bool.and_eq_true, decide_eq_true_eq] at q
    obtain ⟨⟨q1, rfl⟩, q2⟩ := q
    exact ⟨PE.imp (pe_op ho (ha _ q1).run (hb _ q2).run) fun σ H Q ⟨n, ⟨i, j, h1, h2, h3, h4⟩, h5⟩ => by subst h4; exact ⟨i, h1, j, h2, i, j, rfl, rfl, h3, h5⟩⟩
  · cases q
theorem op_add' : OpR X (binaryOp .Add) (rI (fun _ _ => True) fun i j => .int (i + j)) := fun pins s σ H x y u v Q I rx ry ⟨i, j, e1, e2, _, q⟩ => op_add pins s σ H x y u v Q I rx ry ⟨i, j, e1, e2, q⟩
theorem op_sub' : OpR X (binaryOp .Sub) (rI (fun _ _ => True) fun i j => .int (i - j)) := fun pins s σ H x y u v Q I rx ry ⟨i, j, e1, e2, _, q⟩ => op_sub pins s σ H x y u v Q I rx ry ⟨i, j, e1, e2, q⟩
/-- box[k] -/
theorem ie_sub {x : Str} {i : Nat} (h : NX X x i) {k : Int} {e : Expr} (q : sub (nm x) (ki k) e = true) : IE X e (fun σ H n => ∃ p xs, σ[i]? = some (some (.ref p)) ∧ H p = some (.lst xs) ∧ atI xs k = some (.int n)) := by
  unfold sub at q
  split at q
  · simp only [Bool.and_eq_true] at q
    obtain ⟨q1, q2⟩ := q
    refine ⟨PE.imp (pe_ix ix_list (h.pe q1) (ie_ki q2).run ?_) fun σ H Q ⟨n, ⟨p, xs, h1, h2, h3⟩, h4⟩ => ⟨_, h1, k, rfl, p, xs, k, _, rfl, rfl, .inl (.inl h2), h3, h4⟩⟩
    unfold ki at q2
    split at q2
    · exact fun _ _ => rfl
    · cases q2
  · cases q
/-- int(e) of an int -/
theorem ie_int {pa : Expr → Bool} {fa : L2.St → Hp → Int → Prop} (hg : Gl X "int") (hm : X.mg "int" = none) (ha : ∀ e, pa e = true → IE X e fa) {e : Expr} (q : cl1 "int" pa e = true) : IE X e fa := by
  unfold cl1 at q
  split at q
  · simp only [Bool.and_eq_true, beq_iff_eq] at q
    obtain ⟨⟨rfl, q1⟩, q2⟩ := q
    exact ⟨PE.imp (pe_callTy call_int1 hg hm (PyProof.Rows.boot_int) (pa_cons (ha _ q1).run pa_nil (star_ns q2)) (by decide) (by decide) (star_ns q2) rfl) fun σ H Q ⟨n, h1, h2⟩ => ⟨n, h1, .inl ⟨n, rfl, h2⟩⟩⟩
  · cases q
theorem ie_lin {pa : Expr → Bool} {fa : L2.St → Hp → Int → Prop} (hg : Gl X "int") (hm : X.mg "int" = none) (ha : ∀ e, pa e = true → IE X e fa) {k c m : Int} (hk : -(2 ^ 64) < k ∧ k < 2 ^ 64) (hm0 : 0 < m) {e : Expr} (q : lin pa k c m e = true) :
    IE X e (fun σ H n => ∃ i, fa σ H i ∧ n = (i * k + c) % m) := by
  have h := ie_bo op_mod (fun e q => ie_int hg hm (fun e q => ie_bo op_add' (fun e q => ie_bo op_mul ha (fun e q => ie_ki q) q) (fun e q => ie_ki q) q) q) (fun e q => ie_ki q) q
  refine ⟨PE.imp h.run fun σ H Q ⟨n, ⟨i, h1, h2⟩, h3⟩ => ⟨n, ⟨_, m, ⟨_, c, ⟨i, k, h1, rfl, .inr hk, rfl⟩, rfl, trivial, rfl⟩, rfl, hm0, h2⟩, h3⟩⟩
/-! ### statements -/
/-- x = an int expression -/
theorem sx_asg {x : Str} {i : Nat} (hN : X.N.Nodup) (h : NX X x i) {pa : Expr → Bool} {fa : L2.St → Hp → Int → Prop} (ha : ∀ e, pa e = true → IE X e fa) {s : Stmt} (q : asg x pa s = true) :
    PS X s (fun D σ H => ∃ n, fa σ H n ∧ D.nx (σ.set i (some (.int n))) H) := by
  unfold asg at q
  split at q
  · simp only [Bool.and_eq_true, beq_iff_eq] at q
    obtain ⟨⟨rfl, q1⟩, q2⟩ := q
    exact PS.imp (ps_set hN h.ix (.inl h.loc) (ha _ q1).run (swapsNo q2) (.inr h.loc)) fun D σ H ⟨n, h1, h2⟩ => ⟨n, h1, h2⟩
  · cases q
/-- box[k] = an int expression -/
theorem sx_asgI {x : Str} {i : Nat} (h : NX X x i) {k : Int} {pa : Expr → Bool} {fa : L2.St → Hp → Int → Prop} (ha : ∀ e, pa e = true → IE X e fa) {s : Stmt} (q : asgI x k pa s = true) :
    PS X s (fun D σ H => ∃ n p xs j, fa σ H n ∧ σ[i]? = some (some (.ref p)) ∧ H p = some (.lst xs) ∧ ixN xs.length k = some j ∧ D.nx σ (upd H p (.lst (xs.set j (.int n))))) := by
  unfold asgI at q
  split at q
  · simp only [Bool.and_eq_true, beq_iff_eq] at q
    obtain ⟨⟨rfl, rfl⟩, q2⟩ := q
    refine PS.imp (ps_asg (ha _ q2).run (pg_sub (pe_var h.ix (.inl h.loc) h.d1 h.d2) pe_int set_list (sub_asg rfl)) swapsSub storesSub (by rw [asg_ns rfl]; rfl)) fun D σ H ⟨n, p, xs, j, h1, h2, h3, h4, h5⟩ => ?_
    exact ⟨n, h1, _, h2, p, xs, _, j, rfl, rfl, h3, h4, h5⟩
  · cases q
theorem sx_cmp {op : CmpOp} {g : Int → Int → Bool} (ho : OpR X (compareOp op) (rI0 fun i j => .bl (g i j))) {pa pb : Expr → Bool} {fa fb : L2.St → Hp → Int → Prop} (ha : ∀ e, pa e = true → IE X e fa) (hb : ∀ e, pb e = true → IE X e fb) {e : Expr} (q : cmp1 op pa pb e = true) :
    PT X e (fun σ H Q => ∃ i j, fa σ H i ∧ fb σ H j ∧ Q (g i j) H) := by
  unfold cmp1 at q
  split at q
  · simp only [Bool.and_eq_true, decide_eq_true_eq, Bool.not_eq_true'] at q
    obtain ⟨⟨⟨q1, rfl⟩, q2⟩, q3⟩ := q
    exact PT.imp (pt_cmpR ho (ha _ q1).run (hb _ q2).run q3) fun σ H Q ⟨i, j, h1, h2, h3⟩ => ⟨i, h1, j, h2, i, j, rfl, rfl, _, rfl, h3⟩
  · cases q
theorem sx_ifs {pc : Expr → Bool} {pb : List Stmt → Bool} {tc : TT} {tb : TS} (hc : ∀ e, pc e = true → PT X e tc) (hb : ∀ ss, pb ss = true → PSs X ss tb) {s : Stmt} (q : ifs pc pb s = true) : PS X s (tIfS tc tb tNext) := by
  unfold ifs at q
  split at q
  · simp only [Bool.and_eq_true] at q
    exact ps_if (hc _ q.1) (hb _ q.2) pss_nil
  · cases q
theorem sx_rt {pa : Expr → Bool} {fa : L2.St → Hp → Int → Prop} (ha : ∀ e, pa e = true → IE X e fa) {s : Stmt} (q : rt pa s = true) : PS X s (fun D σ H => ∃ n, fa σ H n ∧ D.rt (.int n) H) := by
  unfold rt at q
  split at q
  · exact PS.imp (ps_ret (ha _ q).run) fun D σ H h => h
  · cases q
theorem sq_nil {ss : List Stmt} (q : sq [] ss = true) : PSs X ss tNext := by
  cases ss with
  | nil => exact pss_nil
  | cons _ _ => simp [sq] at q
theorem sq_cons {p : Stmt → Bool} {ps : List (Stmt → Bool)} {t u : TS} (h : ∀ s, p s = true → PS X s t) (h2 : ∀ ss, sq ps ss = true → PSs X ss u) {ss : List Stmt} (q : sq (p :: ps) ss = true) : PSs X ss (tSeq t u) := by
  cases ss with
  | nil => simp [sq] at q
  | cons s ss => simp only [sq, Bool.and_eq_true] at q; exact pss_cons (h _ q.1) (h2 _ q.2)
end
end En

/-! The engine, part x: the box's defs keep their promises. -/
namespace En
open PySem PySem.Spec PyProof.Rows L2

def NLoad : List Str := ["box", "cells", "cell", "size", "first", "second"]
def NDraw : List Str := ["box", "many", "digit"]
def NBox : List Str := ["script"]
/-- the names of a scope, all local; the others global -/
def lcls (sc : Scope) (l : List Str) : Bool := l.all (lcl sc)
theorem lcl_of {sc : Scope} {l : List Str} (h : lcls sc l = true) {x : Str} (m : x ∈ l) : sc.names.lookup x = some .local := by
  have := List.all_eq_true.mp h x m
  unfold lcl at this
  split at this
  · assumption
  · cases this
theorem glb_of {sc : Scope} {x : Str} (h : glb sc x = true) : sc.names.lookup x = some .globalImplicit := by
  unfold glb at h
  split at h
  · assumption
  · cases h
/-- _law_load: at the box's list b and its cells c -/
def spLoad : Sp := fun vs H Q _ => ∃ (b c : Addr) (cells : List Int) (cur seed : Int), vs = [.ref b] ∧ b ≠ c ∧ H b = some (.lst [.ref c, .int cur, .int seed]) ∧ H c = some (.lst (cells.map V.int)) ∧
  ∀ H', (∀ a, a ≠ b → a ≠ c → H' a = H a) → H' b = some (.lst (.ref c :: (boxLoad cells cur seed).2.regs.map V.int)) → H' c = some (.lst ((boxLoad cells cur seed).2.cells.map V.int)) → Q (.int (boxLoad cells cur seed).1) H'
section
variable {PR : Program} {w : World} {K : PySem.W.Frag} {mg : Str → Option Value} {base : Heap}
theorem sx_len {X : Cx} {x : Str} {i : Nat} (h : NX X x i) (hg : Gl X "len") (hm : X.mg "len" = none) {e : Expr} (q : cl1 "len" (nm x) e = true) :
    IE X e (fun σ H n => ∃ p xs, σ[i]? = some (some (.ref p)) ∧ SqL X.K H p xs ∧ n = (xs.length : Nat)) := by
  unfold cl1 at q
  split at q
  · simp only [Bool.and_eq_true, beq_iff_eq] at q
    obtain ⟨⟨rfl, q1⟩, q2⟩ := q
    refine ⟨PE.imp (pe_callB call_len hg hm boot_len (pa_cons (h.pe q1) pa_nil (star_ns q2)) (by decide) (by decide) (star_ns q2) rfl) fun σ H Q ⟨n, ⟨p, xs, h1, h2, h3⟩, h4⟩ => ?_⟩
    subst h3
    exact ⟨_, h1, .ref p, xs.length, rfl, .inl ⟨xs, h2, rfl⟩, h4⟩
  · cases q
theorem pe_pop {X : Cx} {x : Str} {i : Nat} (h : NX X x i) {e : Expr} (q : popc x e = true) : PE X e (fun σ H Q => ∃ p y ys, σ[i]? = some (some (.ref p)) ∧ H p = some (.lst (y :: ys)) ∧ Q y (upd H p (.lst ys))) := by
  unfold popc at q
  split at q
  · simp only [Bool.and_eq_true, beq_iff_eq, decide_eq_true_eq] at q
    obtain ⟨⟨rfl, rfl⟩, q2⟩ := q
    refine PE.imp (pe_bm F.plainAttrs_list F.slot_list_pop F.type_list_pop mt_popAt (pe_var h.ix (.inl h.loc) h.d1 h.d2) (pa_cons pe_int pa_nil) rfl rfl (by simpa using q2) rfl rfl) fun σ H Q ⟨p, y, ys, h1, h2, h3⟩ => ?_
    refine ⟨_, h1, .inl ⟨rfl, _, .inl (.inl h2)⟩, p, y :: ys, 0, 0, y, rfl, rfl, h2, by decide, by decide, ?_, rfl, h3⟩
    simp [seqIndex?]
  · cases q
theorem sx_pop {X : Cx} {x y : Str} {i j : Nat} (hN : X.N.Nodup) (h : NX X x i) (h2 : NX X y j) (hg : Gl X "int") (hm : X.mg "int" = none) {s : Stmt} (q : asg y (cl1 "int" (popc x)) s = true) :
    PS X s (fun D σ H => ∃ p n ys, σ[i]? = some (some (.ref p)) ∧ H p = some (.lst (.int n :: ys)) ∧ D.nx (σ.set j (some (.int n))) (upd H p (.lst ys))) := by
  unfold asg at q
  split at q
  · simp only [Bool.and_eq_true, beq_iff_eq] at q
    obtain ⟨⟨rfl, q1⟩, q2⟩ := q
    unfold cl1 at q1
    split at q1
    · simp only [Bool.and_eq_true, beq_iff_eq] at q1
      obtain ⟨⟨rfl, q3⟩, q4⟩ := q1
      exact PS.imp (ps_set hN h2.ix (.inl h2.loc) (pe_callTy call_int1 hg hm (PyProof.Rows.boot_int) (pa_cons (pe_pop h q3) pa_nil (star_ns q4)) (by decide) (by decide) (star_ns q4) rfl) (swapsNo q2) (.inr h2.loc)) fun D σ H ⟨p, n, ys, e1, e2, e3⟩ => ⟨p, _, ys, e1, e2, .inl ⟨n, rfl, e3⟩⟩
    · cases q1
  · cases q
theorem at0 {α : Type} (v : α) (xs : List α) : L2.atI (v :: xs) 0 = some v := by
  unfold L2.atI ixN
  simp
theorem upd_at {H : Hp} {a b : Addr} {o : HO} (n : a ≠ b) : upd H b o a = H a := upd_ne n
theorem ok_load {st : Stmt} {f : Addr} {fd : FuncData} (F : Fun K "_law_load" "_law_load" st f fd) (hb : isLoad (defBody st) = true) (sc : FnScope NLoad ["box"] (defScope st)) (hl : lcls (defScope st) NLoad = true) (g1 : glb (defScope st) "len" = true) (g2 : glb (defScope st) "int" = true)
    (m1 : mg "len" = none) (m2 : mg "int" = none) : FnOk PR w K mg base CX0 1 f fd ["box"] spLoad := by
  refine F.ok sc (fun vs H Q E h => by obtain ⟨_, _, _, _, _, rfl, _⟩ := h; rfl) fun cdv A outer s H vs Q E hr h => ?_
  have nx : ∀ (x : Str) (i : Nat), NLoad[i]? = some x → dunder2 x = false → NX (cxOf CX0 PR w K mg base NLoad "_law_load" (defScope st) f cdv A outer s H E).nox x i := fun x i hi hd =>
    ⟨hi, lcl_of hl (List.mem_of_getElem? hi), (dunder2_of hd).1, (dunder2_of hd).2⟩
  have nb := nx "box" 0 rfl (by decide +kernel)
  have nc := nx "cells" 1 rfl (by decide +kernel)
  have ne := nx "cell" 2 rfl (by decide +kernel)
  have ns' := nx "size" 3 rfl (by decide +kernel)
  have nf := nx "first" 4 rfl (by decide +kernel)
  have n2 := nx "second" 5 rfl (by decide +kernel)
  have gl : Gl (cxOf CX0 PR w K mg base NLoad "_law_load" (defScope st) f cdv A outer s H E).nox "len" := glb_of g1
  have gi : Gl (cxOf CX0 PR w K mg base NLoad "_law_load" (defScope st) f cdv A outer s H E).nox "int" := glb_of g2
  generalize hX : (cxOf CX0 PR w K mg base NLoad "_law_load" (defScope st) f cdv A outer s H E).nox = X at *
  have hN : X.N.Nodup := by rw [← hX]; exact sc.nd
  have m1 : X.mg "len" = none := by rw [← hX]; exact m1
  have m2 : X.mg "int" = none := by rw [← hX]; exact m2
  -- the box's list, as a value
  have peb : ∀ e, sub (nm "box") (ki 0) e = true → PE X e (fun σ H Q => ∃ p xs v, σ[0]? = some (some (.ref p)) ∧ H p = some (.lst (v :: xs)) ∧ Q v H) := fun e q => by
    unfold sub at q
    split at q
    · simp only [Bool.and_eq_true] at q
      refine PE.imp (pe_ix ix_list (nb.pe q.1) (ie_ki q.2).run ?_) fun σ H Q ⟨p, xs, v, h1, h2, h3⟩ => ⟨_, h1, 0, rfl, p, _, 0, _, rfl, rfl, .inl (.inl h2), at0 v xs, h3⟩
      have q2 := q.2
      unfold ki at q2
      split at q2
      · exact fun _ _ => rfl
      · cases q2
    · cases q
  have s1 : ∀ s, asg "cells" (sub (nm "box") (ki 0)) s = true → PS X s (fun D σ H => ∃ p xs v, σ[0]? = some (some (.ref p)) ∧ H p = some (.lst (v :: xs)) ∧ D.nx (σ.set 1 (some v)) H) := fun s q => by
    unfold asg at q
    split at q
    · simp only [Bool.and_eq_true, beq_iff_eq] at q
      obtain ⟨⟨rfl, q1⟩, q2⟩ := q
      exact PS.imp (ps_set hN nc.ix (.inl nc.loc) (peb _ q1) (swapsNo q2) (.inr nc.loc)) fun D σ H h => h
    · cases q
  have ifc := fun e (q : cmp1 .Gt (cl1 "len" (nm "cells")) (ki 0) e = true) => sx_cmp op_gt (fun e q => sx_len nc gl m1 q) (fun e q => ie_ki q) q
  have iesize : ∀ e, ifx (cmp1 .GtE (nm "cell") (ki 0)) (bo .Mult (ki 2) (nm "cell")) (bo .Sub (bo .Mult (ngk 2) (nm "cell")) (ki 1)) e = true → IE X e (fun σ H n => ∃ c, σ[2]? = some (some (.int c)) ∧ n = cellSize c) := fun e q => by
    unfold ifx at q
    split at q
    · simp only [Bool.and_eq_true] at q
      obtain ⟨⟨q1, q2⟩, q3⟩ := q
      have c1 := sx_cmp (X := X) op_ge (fun e q => ne.ie q) (fun e q => ie_ki (n := 0) q) q1
      have a1 := ie_bo (X := X) op_mul (fun e q => ie_ki (n := 2) q) (fun e q => ne.ie q) q2
      have b1 := ie_bo (X := X) op_sub' (fun e q => ie_bo (X := X) op_mul (fun e q => ie_ngk (n := 2) q) (fun e q => ne.ie q) q) (fun e q => ie_ki (n := 1) q) q3
      refine ⟨PE.imp (pe_ifExp c1 a1.run b1.run) fun σ H Q ⟨n, ⟨c, h1, h2⟩, h3⟩ => ?_⟩
      subst h2
      refine ⟨c, 0, h1, rfl, ?_⟩
      by_cases hc : 0 ≤ c
      · have : decide (0 ≤ c) = true := decide_eq_true hc
        show (if decide (0 ≤ c) = true then _ else _)
        rw [if_pos this]
        exact ⟨_, ⟨2, c, rfl, h1, .inl (by omega), rfl⟩, by unfold cellSize at h3; rw [if_pos hc] at h3; exact h3⟩
      · have : ¬decide (0 ≤ c) = true := by simpa using hc
        show (if decide (0 ≤ c) = true then _ else _)
        rw [if_neg this]
        exact ⟨_, ⟨_, 1, ⟨-2, c, rfl, h1, .inl (by omega), rfl⟩, rfl, trivial, rfl⟩, by unfold cellSize at h3; rw [if_neg hc] at h3; exact h3⟩
    · cases q
  have ieu := fun e (q : bo .Mod (cl1 "int" (bo .Add (bo .Add (bo .Mult (sub (nm "box") (ki 2)) (ki 69621)) (bo .Mult (nm "size") (ki 48271))) (ki 11))) (ki 2147483647) e = true) =>
    ie_bo (X := X) op_mod (fun e q => ie_int gi m2 (fun e q => ie_bo op_add' (fun e q => ie_bo op_add' (fun e q => ie_bo op_mul (fun e q => ie_sub nb q) (fun e q => ie_ki q) q) (fun e q => ie_bo op_mul (fun e q => ns'.ie q) (fun e q => ie_ki q) q) q) (fun e q => ie_ki q) q) q) (fun e q => ie_ki q) q
  have body := sq_cons s1 (fun ss q => sq_cons (fun s q => sx_ifs ifc (fun ss q => sq_cons (fun s q => sx_pop hN nc ne gi m2 q) (fun ss q => sq_cons (fun s q => sx_asg hN ns' iesize q) (fun ss q => sq_cons (fun s q => sx_ifs (fun e q => sx_cmp op_ge (fun e q => ns'.ie q) (fun e q => ie_ki q) q) (fun ss q => sq_cons (fun s q => sx_rt (fun e q => ns'.ie q) q) (fun ss q => sq_nil q) q) q)
    (fun ss q => sq_cons (fun s q => sx_asgI nb ieu q) (fun ss q => sq_nil q) q) q) q) q) q)
    (fun ss q => sq_cons (fun s q => sx_asg hN nf (fun e q => ie_lin gi m2 (fun e q => ie_sub nb q) (by decide) (by decide) q) q) (fun ss q => sq_cons (fun s q => sx_asg hN n2 (fun e q => ie_lin gi m2 (fun e q => nf.ie q) (by decide) (by decide) q) q)
      (fun ss q => sq_cons (fun s q => sx_asgI nb (fun e q => ie_lin gi m2 (fun e q => n2.ie q) (by decide) (by decide) q) q) (fun ss q => sq_cons (fun s q => sx_rt (fun e q => ie_bo op_add' (fun e q => ie_bo op_add' (fun e q => ie_bo op_mul (fun e q => nf.ie q) (fun e q => ie_ki q) q) (fun e q => ie_bo op_mul (fun e q => n2.ie q) (fun e q => ie_ki q) q) q) (fun e q => ie_sub nb q) q) q) (fun ss q => sq_nil q) q) q) q) q) q) hb
  refine ⟨_, body, ?_⟩
  obtain ⟨b, c, cells, cur, seed, rfl, hbc, hHb, hHc, hQ⟩ := h
  -- the last five statements, from any seed
  have last : ∀ (σ : L2.St) (H1 : Hp) (cs : List Int) (sd : Int), σ.length = 6 → σ[0]? = some (some (.ref b)) → (∀ a, a ≠ b → a ≠ c → H1 a = H a) → H1 b = some (.lst [.ref c, .int cur, .int sd]) → H1 c = some (.lst (cs.map V.int)) → boxLoad cells cur seed = boxLast cs cur sd →
      tSeq (fun D σ H => ∃ n, (∃ i, (∃ p xs, σ[0]? = some (some (.ref p)) ∧ H p = some (.lst xs) ∧ atI xs 2 = some (.int i)) ∧ n = (i * 48271 + 17) % 2147483629) ∧ D.nx (σ.set 4 (some (.int n))) H)
        (tSeq (fun D σ H => ∃ n, (∃ i, σ[4]? = some (some (.int i)) ∧ n = (i * 69621 + 5) % 2147483587) ∧ D.nx (σ.set 5 (some (.int n))) H)
          (tSeq (fun D σ H => ∃ n p xs j, (∃ i, σ[5]? = some (some (.int i)) ∧ n = (i * 40692 + 3) % 2147483563) ∧ σ[0]? = some (some (.ref p)) ∧ H p = some (.lst xs) ∧ ixN xs.length 2 = some j ∧ D.nx σ (upd H p (.lst (xs.set j (.int n)))))
            (tSeq (fun D σ H => ∃ n, (∃ i j, (∃ i_1 j, (∃ i j, σ[4]? = some (some (.int i)) ∧ j = 4611686014132420609 ∧ CMul i j ∧ i_1 = i * j) ∧ (∃ i j_1, σ[5]? = some (some (.int i)) ∧ j_1 = 2147483647 ∧ CMul i j_1 ∧ j = i * j_1) ∧ True ∧ i = i_1 + j) ∧ (∃ p xs, σ[0]? = some (some (.ref p)) ∧ H p = some (.lst xs) ∧ atI xs 2 = some (.int j)) ∧ True ∧ n = i + j) ∧ D.rt (.int n) H) tNext)))
        { nx := fun _ H' => Q .non H', rt := Q } σ H1 := by
    intro σ H1 cs sd hlen h0 hk hb1 hc1 hload
    match σ, hlen with
    | [x0, x1, x2, x3, x4, x5], _ =>
      have h0' : x0 = some (.ref b) := by simpa using h0
      subst h0'
      refine ⟨_, ⟨sd, ⟨b, _, rfl, hb1, rfl⟩, rfl⟩, _, ⟨_, rfl, rfl⟩, _, b, _, 2, ⟨_, rfl, rfl⟩, rfl, hb1, rfl, _, ⟨_, _, ⟨_, _, ⟨_, _, rfl, rfl, .inr (by decide), rfl⟩, ⟨_, _, rfl, rfl, .inr (by decide), rfl⟩, trivial, rfl⟩, ⟨b, _, rfl, upd_same, rfl⟩, trivial, rfl⟩, ?_⟩
      have := hQ (upd H1 b (.lst [.ref c, .int cur, .int (((((sd * 48271 + 17) % 2147483629) * 69621 + 5) % 2147483587 * 40692 + 3) % 2147483563)]))
      rw [hload] at this
      exact this (fun a n1 n2 => by rw [upd_ne n1]; exact hk a n1 n2) upd_same (by rw [upd_ne (Ne.symm hbc)]; exact hc1)
  have start6 : L2.start NLoad [.ref b] = [some (.ref b), none, none, none, none, none] := rfl
  rw [start6]
  refine ⟨b, [.int cur, .int seed], .ref c, rfl, hHb, ?_⟩
  refine ⟨_, 0, ⟨c, _, rfl, .inl (.inl hHc), rfl⟩, rfl, ?_⟩
  cases cells with
  | nil =>
    refine (iff_of_eq (if_neg (by simp))).mpr ?_
    exact last _ H [] seed rfl rfl (fun _ _ _ => rfl) hHb hHc rfl
  | cons x xs =>
    refine (iff_of_eq (if_pos (by simp))).mpr ?_
    refine ⟨c, x, xs.map V.int, rfl, hHc, ?_⟩
    refine ⟨_, ⟨x, rfl, rfl⟩, ?_⟩
    refine ⟨_, _, rfl, rfl, ?_⟩
    by_cases hs : 1000000000000000000 ≤ cellSize x
    · refine (iff_of_eq (if_pos (by simpa using hs))).mpr ?_
      refine ⟨_, rfl, ?_⟩
      have := hQ (upd H c (.lst (xs.map V.int)))
      have e : boxLoad (x :: xs) cur seed = (cellSize x, ⟨xs, [cur, seed]⟩) := by simp only [boxLoad]; rw [if_pos hs]
      rw [e] at this
      exact this (fun a n1 n2 => upd_ne n2) (by rw [upd_ne hbc]; exact hHb) upd_same
    · refine (iff_of_eq (if_neg (by simpa using hs))).mpr ?_
      have hb2 : upd H c (.lst (xs.map V.int)) b = some (.lst [.ref c, .int cur, .int seed]) := by rw [upd_ne hbc]; exact hHb
      refine ⟨_, b, _, 2, ⟨_, _, ⟨_, _, ⟨_, _, ⟨_, _, ⟨b, _, rfl, hb2, rfl⟩, rfl, .inr (by decide), rfl⟩, ⟨_, _, rfl, rfl, .inr (by decide), rfl⟩, trivial, rfl⟩, rfl, trivial, rfl⟩, rfl, by decide, rfl⟩, rfl, hb2, rfl, ?_⟩
      refine last _ _ xs ((seed * 69621 + cellSize x * 48271 + 11) % 2147483647) rfl rfl (fun a n1 n2 => by rw [upd_ne n1, upd_ne n2]) upd_same (by rw [upd_ne (Ne.symm hbc)]; exact upd_same) ?_
      simp only [boxLoad]
      rw [if_neg hs]
end
end En

/-! The engine, part y: _law_draw, _law_box. -/
namespace En
open PySem PySem.Spec PyProof.Rows L2
section
variable {PR : Program} {w : World} {K : PySem.W.Frag} {mg : Str → Option Value} {base : Heap}
theorem boxRel_some {R : Rx} {H : Hp} {x : Box} (h : BoxRel R H (some x)) : ∃ b c, R.bx = some (b, c) ∧ b ≠ c ∧ H b = some (.lst (.ref c :: x.regs.map .int)) ∧ H c = some (.lst (x.cells.map .int)) := by
  unfold BoxRel at h
  cases e : R.bx with
  | none => rw [e] at h; exact h.elim
  | some p => obtain ⟨b, c⟩ := p; rw [e] at h; exact ⟨b, c, rfl, h⟩
theorem ok_draw {st : Stmt} {f : Addr} {fd : FuncData} {fl : Addr} {fdl : FuncData} (F : Fun K "_law_draw" "_law_draw" st f fd) (hb : isDraw (defBody st) = true) (sc : FnScope NDraw ["box", "many"] (defScope st)) (hl : lcls (defScope st) NDraw = true) (g1 : glb (defScope st) "_law_load" = true) (g2 : glb (defScope st) "int" = true)
    (m2 : mg "int" = none) (ml : mg "_law_load" = some (.ref fl)) (kl : PySem.W.keepIn K (.ref fl) = true) (bl : Binds K fdl ["box"] []) (L : FnOk PR w K mg base CX0 1 fl fdl ["box"] spLoad) : FnOk PR w K mg base CX0 2 f fd ["box", "many"] (spD K w mg 2 boxDraw) := by
  refine F.ok sc (fun vs H Q E h => h.1) fun cdv A outer s H vs Q E hr h => ?_
  have nx : ∀ (x : Str) (i : Nat), NDraw[i]? = some x → dunder2 x = false → NX (cxOf CX0 PR w K mg base NDraw "_law_draw" (defScope st) f cdv A outer s H E).nox x i := fun x i hi hd =>
    ⟨hi, lcl_of hl (List.mem_of_getElem? hi), (dunder2_of hd).1, (dunder2_of hd).2⟩
  have nb := nx "box" 0 rfl (by decide +kernel)
  have nm' := nx "many" 1 rfl (by decide +kernel)
  have nd := nx "digit" 2 rfl (by decide +kernel)
  have gi : Gl (cxOf CX0 PR w K mg base NDraw "_law_draw" (defScope st) f cdv A outer s H E).nox "int" := glb_of g2
  have gl : Gl (cxOf CX0 PR w K mg base NDraw "_law_draw" (defScope st) f cdv A outer s H E).nox "_law_load" := glb_of g1
  have room : Room 1 (cxOf CX0 PR w K mg base NDraw "_law_draw" (defScope st) f cdv A outer s H E).nox.A := hr
  have pload : ∀ e, cl1 "_law_load" (nm "box") e = true → PE (cxOf CX0 PR w K mg base NDraw "_law_draw" (defScope st) f cdv A outer s H E).nox e (tCall spLoad [] E0 (tCons (tVar 0) tNil)) := fun e q => by
    unfold cl1 at q
    split at q
    · simp only [Bool.and_eq_true, beq_iff_eq] at q
      obtain ⟨⟨rfl, q1⟩, q2⟩ := q
      exact pe_call L room gl ml kl bl (dvs := []) .nil pass0 (pa_cons (nb.pe q1) pa_nil (star_ns q2)) (by decide) (star_ns q2) rfl
    · cases q
  generalize hX : (cxOf CX0 PR w K mg base NDraw "_law_draw" (defScope st) f cdv A outer s H E).nox = X at *
  have hN : X.N.Nodup := by rw [← hX]; exact sc.nd
  have m2 : X.mg "int" = none := by rw [← hX]; exact m2
  have s1 : ∀ s, asgI "box" 1 (cl1 "_law_load" (nm "box")) s = true → PS X s (fun D σ H => tCall spLoad [] E0 (tCons (tVar 0) tNil) σ H fun v H1 => ∃ p xs, σ[0]? = some (some (.ref p)) ∧ H1 p = some (.lst xs) ∧ ixN xs.length 1 = some 1 ∧ D.nx σ (upd H1 p (.lst (xs.set 1 v)))) := fun s q => by
    unfold asgI at q
    split at q
    · simp only [Bool.and_eq_true, beq_iff_eq] at q
      obtain ⟨⟨rfl, rfl⟩, q2⟩ := q
      refine PS.imp (ps_asg (pload _ q2) (pg_sub (pe_var nb.ix (.inl nb.loc) nb.d1 nb.d2) pe_int set_list (sub_asg rfl)) swapsSub storesSub (by rw [asg_ns rfl]; rfl)) fun D σ H h => ?_
      obtain ⟨v0, h0, h1⟩ := h
      obtain ⟨b, c, cells, cur, seed, hv, hbc, hHb, hHc, hQ⟩ := h1
      refine ⟨v0, h0, b, c, cells, cur, seed, hv, hbc, hHb, hHc, fun H' a1 a2 a3 => ?_⟩
      obtain ⟨p, xs, e1, e2, e3, e4⟩ := hQ H' a1 a2 a3
      exact ⟨_, e1, p, xs, 1, 1, rfl, rfl, e2, e3, e4⟩
    · cases q
  have body := sq_cons (fun s q => sx_ifs (fun e q => sx_cmp op_lt (fun e q => ie_sub nb q) (fun e q => nm'.ie q) q) (fun ss q => sq_cons s1 (fun ss q => sq_nil q) q) q)
    (fun ss q => sq_cons (fun s q => sx_asg hN nd (fun e q => ie_bo op_mod (fun e q => ie_int gi m2 (fun e q => ie_sub nb q) q) (fun e q => nm'.ie q) q) q)
      (fun ss q => sq_cons (fun s q => sx_asgI nb (fun e q => ie_bo op_fdiv (fun e q => ie_sub nb q) (fun e q => nm'.ie q) q) q) (fun ss q => sq_cons (fun s q => sx_rt (fun e q => nd.ie q) q) (fun ss q => sq_nil q) q) q) q) hb
  refine ⟨_, body, ?_⟩
  obtain ⟨hl2, bx, P, bs, ds, d, bs', hbr, nob, hrep, hf, hQ⟩ := h
  -- the arguments
  unfold boxDraw at hf
  split at hf
  · rename_i many
    obtain ⟨v1, r1, rfl, h1, hr1⟩ := hrep.inv
    obtain ⟨v2, r2, rfl, h2, hr2⟩ := hr1.inv
    have := hr2.invNil
    subst this
    simp only [Rep] at h1 h2
    subst h2
    obtain ⟨b, c, rfl, hbx⟩ := h1
    have hbx : bx = some (b, c) := hbx
    subst hbx
    split at hf
    · rename_i cells cur seed
      split at hf
      · rename_i hmany
        obtain ⟨b', c', e, hbc, hHb, hHc⟩ := boxRel_some hbr
        cases e
        have hHb : H b = some (.lst [.ref c, .int cur, .int seed]) := hHb
        have start3 : L2.start NDraw [.ref b, .int many] = [some (.ref b), some (.int many), none] := rfl
        rw [start3]
        -- the last statements
        have last : ∀ (H1 : Hp) (cs : List Int) (v sd : Int), (∀ a, a ≠ b → a ≠ c → H1 a = H a) → H1 b = some (.lst [.ref c, .int v, .int sd]) → H1 c = some (.lst (cs.map V.int)) → (some (D.int (v % many), some (⟨cs, [v / many, sd]⟩ : Box)) : Option (D × BS)) = some (d, bs') →
            tSeq (fun D σ H => ∃ n, (∃ i j, (∃ p xs, σ[0]? = some (some (.ref p)) ∧ H p = some (.lst xs) ∧ atI xs 1 = some (.int i)) ∧ σ[1]? = some (some (.int j)) ∧ 0 < j ∧ n = i % j) ∧ D.nx (σ.set 2 (some (.int n))) H)
              (tSeq (fun D σ H => ∃ n p xs j, (∃ i j, (∃ p xs, σ[0]? = some (some (.ref p)) ∧ H p = some (.lst xs) ∧ atI xs 1 = some (.int i)) ∧ σ[1]? = some (some (.int j)) ∧ CDiv i j ∧ n = i / j) ∧ σ[0]? = some (some (.ref p)) ∧ H p = some (.lst xs) ∧ ixN xs.length 1 = some j ∧ D.nx σ (upd H p (.lst (xs.set j (.int n)))))
                (tSeq (fun D σ H => ∃ n, σ[2]? = some (some (.int n)) ∧ D.rt (.int n) H) tNext))
              { nx := fun _ H' => Q .non H', rt := Q } [some (.ref b), some (.int many), none] H1 := by
          intro H1 cs v sd hk hb1 hc1 he
          simp only [Option.some.injEq, Prod.mk.injEq] at he
          obtain ⟨rfl, rfl⟩ := he
          refine ⟨_, ⟨v, many, ⟨b, _, rfl, hb1, rfl⟩, rfl, hmany.1, rfl⟩, _, b, _, 1, ⟨v, many, ⟨b, _, rfl, hb1, rfl⟩, rfl, hmany, rfl⟩, rfl, hb1, rfl, _, rfl, ?_⟩
          refine hQ _ _ (some (b, c)) ⟨.refl _, fun a o e n => ?_, ?_, fun _ i => .inl i⟩ (by simp only [Rep])
          · have nb : a ≠ b := fun z => n ⟨b, c, rfl, .inl z⟩
            have nc : a ≠ c := fun z => n ⟨b, c, rfl, .inr z⟩
            rw [upd_ne nb, hk a nb nc]; exact e
          · show _ ∧ _ ∧ _
            refine ⟨hbc, upd_same, ?_⟩
            rw [upd_ne (Ne.symm hbc)]; exact hc1
        refine ⟨cur, many, ⟨b, _, rfl, hHb, rfl⟩, rfl, ?_⟩
        by_cases hc : cur < many
        · rw [if_pos hc] at hf
          refine (iff_of_eq (if_pos (by simpa using hc))).mpr ?_
          refine ⟨_, rfl, b, c, cells, cur, seed, rfl, hbc, hHb, hHc, fun H' a1 a2 a3 => ?_⟩
          have hreg : ∃ seed', (boxLoad cells cur seed).2.regs = [cur, seed'] := by
            cases cells with
            | nil => exact ⟨_, rfl⟩
            | cons x xs =>
              simp only [boxLoad]
              split
              · exact ⟨_, rfl⟩
              · exact ⟨_, rfl⟩
          obtain ⟨seed', hreg⟩ := hreg
          rw [hreg] at a2
          refine ⟨b, [.ref c, .int cur, .int seed'], rfl, a2, rfl, ?_⟩
          refine last _ (boxLoad cells cur seed).2.cells (boxLoad cells cur seed).1 seed' (fun a n1 n2 => by rw [upd_ne n1]; exact a1 a n1 n2) upd_same (by rw [upd_ne (Ne.symm hbc)]; exact a3) ?_
          rw [← hf]
          have ex : boxLoad cells cur seed = ((boxLoad cells cur seed).1, ⟨(boxLoad cells cur seed).2.cells, [cur, seed']⟩) := by rw [← hreg]
          rw [ex]
        · rw [if_neg hc] at hf
          refine (iff_of_eq (if_neg (by simpa using hc))).mpr ?_
          exact last H cells cur seed (fun _ _ _ => rfl) hHb hHc hf
      · cases hf
    · cases hf
  · cases hf
theorem sl63 {xs : List V} (h : xs.length ≤ 63) : cutV xs none (some 63) = xs := by
  unfold cutV HT.sIx
  simp only
  rw [if_neg (by omega)]
  have : min (63 : Int).toNat xs.length = xs.length := by omega
  rw [this]
  simp
theorem ok_box {st : Stmt} {f : Addr} {fd : FuncData} (F : Fun K "_law_box" "_law_box" st f fd) (hb : isBox (defBody st) = true) (sc : FnScope NBox ["script"] (defScope st)) (hl : lcls (defScope st) NBox = true) (g1 : glb (defScope st) "list" = true) (g2 : glb (defScope st) "len" = true)
    (m1 : mg "list" = none) (m2 : mg "len" = none) : FnOk PR w K mg base CX0 1 f fd ["script"] (spD K w mg 1 boxNew) := by
  refine F.ok sc (fun vs H Q E h => h.1) fun cdv A outer s H vs Q E hr h => ?_
  have nx : ∀ (x : Str) (i : Nat), NBox[i]? = some x → dunder2 x = false → NX (cxOf CX0 PR w K mg base NBox "_law_box" (defScope st) f cdv A outer s H E).nox x i := fun x i hi hd =>
    ⟨hi, lcl_of hl (List.mem_of_getElem? hi), (dunder2_of hd).1, (dunder2_of hd).2⟩
  have nb := nx "script" 0 rfl (by decide +kernel)
  have gl : Gl (cxOf CX0 PR w K mg base NBox "_law_box" (defScope st) f cdv A outer s H E).nox "len" := glb_of g2
  have gs : Gl (cxOf CX0 PR w K mg base NBox "_law_box" (defScope st) f cdv A outer s H E).nox "list" := glb_of g1
  have mx : (cxOf CX0 PR w K mg base NBox "_law_box" (defScope st) f cdv A outer s H E).nox.mg = mg := rfl
  have kx : (cxOf CX0 PR w K mg base NBox "_law_box" (defScope st) f cdv A outer s H E).nox.K = K := rfl
  generalize hX : (cxOf CX0 PR w K mg base NBox "_law_box" (defScope st) f cdv A outer s H E).nox = X at *
  have hN : X.N.Nodup := by rw [← hX]; exact sc.nd
  have m1 : X.mg "list" = none := by rw [mx]; exact m1
  have m2 : X.mg "len" = none := by rw [mx]; exact m2
  obtain ⟨hl2, bx, P, bs, ds, d, bs', hbr, nob, hrep, hf, hQ⟩ := h
  unfold boxNew at hf
  split at hf
  · rename_i ns
    obtain ⟨v1, r1, rfl, h1, hr1⟩ := hrep.inv
    have := hr1.invNil
    subst this
    simp only [Rep] at h1
    obtain ⟨a, rfl, hscr⟩ := h1
    have hsq : SqL K H a (ns.map V.int) := hscr.sq
    split at hf
    · split at hf
      · rename_i hz
        simp only [Option.some.injEq, Prod.mk.injEq] at hf
        obtain ⟨rfl, rfl⟩ := hf
        have hbxn : bx = none := by
          unfold BoxRel at hbr
          cases bx with
          | none => rfl
          | some p => exact hbr.elim
        subst hbxn
        -- the text
        have hb2 := hb
        unfold isBox at hb2
        cases hbody : defBody st with
        | nil => rw [hbody] at hb2; simp [sq] at hb2
        | cons s0 rest =>
          rw [hbody] at hb2
          simp only [sq, Bool.and_eq_true] at hb2
          obtain ⟨hs0, hrest⟩ := hb2
          have hr0 : rest = [] := by simpa using hrest
          subst hr0
          split at hs0
          · rename_i ea eb ec p1 p2
            simp only [Bool.and_eq_true] at hs0
            obtain ⟨⟨ha, hbb⟩, hc⟩ := hs0
            have pa : ∃ t, PE X ea t ∧ En.ns ea = true ∧ ∀ σ H (Q : VK), (σ[0]? = some (some (.ref a)) ∧ SqL K H a (ns.map V.int) ∧ ∀ p1 p2, H p1 = none → upd H p1 (.lst (ns.map V.int)) p2 = none → Q (.ref p2) (upd (upd H p1 (.lst (ns.map V.int))) p2 (.lst (ns.map V.int)))) → t σ H Q := by
              unfold cl1 at ha
              split at ha
              · simp only [Bool.and_eq_true, beq_iff_eq] at ha
                obtain ⟨⟨rfl, q1⟩, q2⟩ := ha
                unfold slc63 at q1
                split at q1
                · simp only [beq_iff_eq] at q1
                  subst q1
                  refine ⟨_, pe_callTy call_list_of gs m1 boot_list (pa_cons (pe_slice sl_list (pe_var nb.ix (.inl nb.loc) nb.d1 nb.d2) po_none (po_some pe_int)) pa_nil) (by decide) (by decide), rfl, fun σ H Q ⟨h0, h1, h2⟩ => ?_⟩
                  refine ⟨_, h0, 63, rfl, a, _, rfl, by rw [kx]; exact h1, fun p1 hp1 => ?_⟩
                  rw [sl63 (by simpa using hz)]
                  exact ⟨p1, _, rfl, .inl (.inl (.inl upd_same)), fun p2 hp2 => h2 p1 p2 hp1 hp2⟩
                · cases q1
              · cases ha
            obtain ⟨ta, hta, hns, hga⟩ := pa
            have ib := ie_ki (X := X) hbb
            have ic := ie_bo (X := X) op_add' (fun e q => ie_ki (n := 4711) q) (fun e q => sx_len nb gl m2 q) hc
            have na : En.ns eb = true ∧ En.ns ec = true := by
              constructor
              · unfold ki at hbb
                split at hbb
                · rfl
                · cases hbb
              · unfold bo at hc
                split at hc
                · rfl
                · cases hc
            refine ⟨_, pss_cons (ps_ret (pe_lst (pa_cons hta (pa_cons ib.run (pa_cons ic.run pa_nil (star_ns na.2)) (star_ns na.1)) (star_ns hns)))) pss_nil, ?_⟩
            have start1 : L2.start NBox [.ref a] = [some (.ref a)] := rfl
            rw [start1]
            refine hga _ _ _ ⟨rfl, hsq, fun p1 p2 hp1 hp2 => ?_⟩
            have n21 : p2 ≠ p1 := fun z => by subst z; rw [upd_same] at hp2; cases hp2
            have hp2' : H p2 = none := by rw [upd_ne n21] at hp2; exact hp2
            have sq2 : SqL K (upd (upd H p1 (.lst (ns.map V.int))) p2 (.lst (ns.map V.int))) a (ns.map V.int) := by
              rcases hscr with ⟨o, h⟩ | h
              · refine .inl (.inr ⟨o, ?_⟩)
                rw [upd_ne (fun z => by subst z; rw [hp2'] at h; cases h), upd_ne (fun z => by subst z; rw [hp1] at h; cases h)]
                exact h
              · exact SqL.empty h
            refine ⟨0, rfl, _, ⟨4711, _, rfl, ⟨a, _, rfl, by rw [kx]; exact sq2, rfl⟩, trivial, rfl⟩, ?_⟩
            refine ⟨by show 3 ≤ sizeLine; decide, fun p3 hp3 => ?_⟩
            have n32 : p3 ≠ p2 := fun z => by subst z; rw [upd_same] at hp3; cases hp3
            have n31 : p3 ≠ p1 := fun z => by subst z; rw [upd_ne n32, upd_same] at hp3; cases hp3
            have hp3' : H p3 = none := by rw [upd_ne n32, upd_ne n31] at hp3; exact hp3
            refine hQ _ _ (some (p3, p2)) ⟨⟨rfl, rfl, rfl, fun p e => by cases e⟩, fun b o e _ => ?_, ?_, fun b i => ?_⟩ ?_
            · have q3 : b ≠ p3 := fun z => by subst z; rw [hp3'] at e; cases e
              have q2 : b ≠ p2 := fun z => by subst z; rw [hp2'] at e; cases e
              have q1 : b ≠ p1 := fun z => by subst z; rw [hp1] at e; cases e
              rw [upd_ne q3, upd_ne q2, upd_ne q1]; exact e
            · show _ ∧ _ ∧ _
              refine ⟨n32, ?_, ?_⟩
              · rw [upd_same]
                simp
              · rw [upd_ne (Ne.symm n32)]; exact upd_same
            · obtain ⟨b1, c1, e, i⟩ := i
              cases e
              rcases i with rfl | rfl
              · exact .inr hp3'
              · exact .inr hp2'
            · simp only [Rep]
              exact ⟨p3, p2, rfl, rfl⟩
          · cases hs0
      · cases hf
    · cases hf
  · cases hf
end
end En

/-! The engine, part z: a law's end. -/
namespace En
open PySem PySem.Spec PyProof.Rows L2
/-! ### the module's constants -/
def ConK (K : PySem.W.Frag) (w : World) (mg : Str → Option Value) (x : Str) (d : D) : Prop := ∃ u v, mg x = some u ∧ RelV v u ∧ ∀ bx P H, Rep ⟨K, w, mg, bx⟩ P H d v
mutual
def repK (K : PySem.W.Frag) : Nat → D → Value → Bool
  | n, .int i, u => match u with
    | .int j _ => i == j
    | _ => false
  | n, .str x, u => match u with
    | .str y _ => x == y && PyData.strOk x
    | _ => false
  | n, .bl x, u => match u with
    | .bool y => x == y
    | _ => false
  | n, .non, u => match u with
    | .none => true
    | _ => false
  | _, _, _ => false
def repKs (K : PySem.W.Frag) : Nat → List D → List Value → Bool
  | _, [], us => us.isEmpty
  | n, d :: ds, us => match us with
    | u :: us => repK K n d u && repKs K n ds us
    | [] => false
end
section
variable {K : PySem.W.Frag} {w : World} {mg : Str → Option Value} {h : Heap} {x : Str}
mutual
theorem repK_ok : ∀ (n : Nat) (d : D) (u : Value), repK K n d u = true → ∃ v, RelV v u ∧ ∀ bx P H, Rep ⟨K, w, mg, bx⟩ P H d v
  | n, .int i, u, q => by
    cases u with
    | int j t => simp only [repK, beq_iff_eq] at q; subst q; exact ⟨.int i, ⟨t, rfl⟩, fun _ _ _ => by simp only [Rep]⟩
    | _ => simp [repK] at q
  | n, .str i, u, q => by
    cases u with
    | str j t => simp only [repK, Bool.and_eq_true, beq_iff_eq] at q; obtain ⟨rfl, q2⟩ := q; exact ⟨.str i, ⟨t, rfl⟩, fun _ _ _ => by simp only [Rep]; exact ⟨trivial, q2⟩⟩
    | _ => simp [repK] at q
  | n, .bl i, u, q => by
    cases u with
    | bool j => simp only [repK, beq_iff_eq] at q; subst q; exact ⟨.bl i, rfl, fun _ _ _ => by simp only [Rep]⟩
    | _ => simp [repK] at q
  | n, .non, u, q => by
    cases u with
    | none => exact ⟨.non, rfl, fun _ _ _ => by simp only [Rep]⟩
    | _ => simp [repK] at q
  | n, .tup ds, u, q => by simp [repK] at q
  | n, .lst ds, u, q => by simp [repK] at q
  | n, .dct _ _, u, q => by simp [repK] at q
  | n, .fn _, u, q => by simp [repK] at q
  | n, .box, u, q => by simp [repK] at q
theorem repKs_ok : ∀ (n : Nat) (ds : List D) (us : List Value), repKs K n ds us = true → ∃ vs, Vals vs us ∧ ∀ bx P H, Reps ⟨K, w, mg, bx⟩ P H ds vs
  | n, [], us, q => by
    simp only [repKs, List.isEmpty_iff] at q
    subst q
    exact ⟨[], .nil, fun _ _ _ => .nil⟩
  | n, d :: ds, us, q => by
    cases us with
    | nil => simp [repKs] at q
    | cons u us =>
      simp only [repKs, Bool.and_eq_true] at q
      obtain ⟨v, h1, h2⟩ := repK_ok n d u q.1
      obtain ⟨vs, h3, h4⟩ := repKs_ok n ds us q.2
      exact ⟨v :: vs, .cons h1 h3, fun bx P H => .cons (h2 bx P H) (h4 bx P H)⟩
end
theorem con_of {u : Value} {d : D} (X : K.In h) (G : h.Ns mainGlobals mg) (a : PySem.W.nsIn K mainGlobals x = some (some u)) (n : Nat) (b : repK K n d u = true) : ConK K w mg x d := by
  obtain ⟨v, h1, h2⟩ := repK_ok (w := w) (mg := mg) n d u b
  exact ⟨u, v, PySem.W.mg_of X G a, h1, h2⟩
theorem ns_dict {a : Addr} : ∀ {es : List DictEntry} {ks : List Str} {xs : List V} {P : Params}, es.map He.keyOf = He.keysIn P ks → Vals xs (es.map (·.val)) → ∀ z : Str, ∃ r, (match es.find? (·.key.isStr z) with
      | some e => some (some e.val)
      | none => if es.any (·.refKey) then none else some none) = some r ∧ RelO (atS z (ks.map D.str) xs) r
  | [], ks, xs, P, h1, h2, z => by
    cases ks with
    | nil => cases h2; exact ⟨none, rfl, trivial⟩
    | cons k ks => cases h1
  | e :: es, ks, xs, P, h1, h2, z => by
    cases ks with
    | nil => cases h1
    | cons k ks =>
      have h1' : He.keyOf e :: es.map He.keyOf = some (k, PyData.keyHash P k) :: He.keysIn P ks := h1
      injection h1' with q1 q2
      cases h2 with
      | @cons x u xs us r rr =>
        have hk : ∃ t, e.key = .str k t := by
          unfold He.keyOf at q1
          split at q1
          · rename_i x t q
            have := Option.some.inj q1
            obtain ⟨q5, q6⟩ := Prod.mk.inj this
            exact ⟨t, by rw [q, q5]⟩
          · cases q1
        obtain ⟨t, hk⟩ := hk
        have is : e.key.isStr z = (k == z) := by rw [hk]; rfl
        by_cases kz : k = z
        · subst kz
          refine ⟨some e.val, ?_, ?_⟩
          · rw [List.find?_cons_of_pos (by rw [is]; simp)]
          · simp only [List.map_cons, atS]
            simp only [if_true]
            exact r
        · obtain ⟨r', h3, h4⟩ := ns_dict (a := a) q2 rr z
          refine ⟨r', ?_, ?_⟩
          · rw [List.find?_cons_of_neg (by rw [is]; simpa using kz)]
            have rk : e.refKey = false := by unfold DictEntry.refKey; rw [hk]
            rw [List.any_cons, rk, Bool.false_or]
            exact h3
          · simp only [List.map_cons, atS]
            rw [if_neg kz]
            exact h4
theorem con_dct {a : Addr} {es : Array DictEntry} {n : Nat} {ks : List Str} {ds : List D} (X : K.In h) (G : h.Ns mainGlobals mg) (a1 : PySem.W.nsIn K mainGlobals x = some (some (.ref a))) (l : K.lookup a = some ⟨.type "dict", none, .dict es n, #[]⟩)
    (low : (a == sysModules) = false) (h1 : es.toList.map He.keyOf = He.keysIn w.params ks) (m : Nat) (h2 : repKs K m ds (es.toList.map (·.val)) = true) (h0 : ks ≠ [] := by exact List.cons_ne_nil _ _) : ConK K w mg x (.dct (ks.map D.str) ds) := by
  obtain ⟨vs, h3, h4⟩ := repKs_ok (w := w) (mg := mg) m ds _ h2
  refine ⟨.ref a, .ref a, PySem.W.mg_of X G a1, rfl, fun bx P H => ?_⟩
  simp only [Rep]
  refine ⟨a, vs, rfl, .inr (.inr ⟨⟨es, n, l, He.keysLit_of h1, low⟩, by simpa using h0, fun k hk => ?_, ?_, fun z => ?_⟩), h4 bx P H⟩
  · obtain ⟨y, _, rfl⟩ := List.mem_map.mp hk
    exact ⟨y, rfl⟩
  · have e1 := congrArg List.length h1
    have e2 := h3.length
    simp only [List.length_map, He.keysIn] at e1 e2
    rw [List.length_map, e2, e1]
  · obtain ⟨r, h5, h6⟩ := ns_dict (a := a) h1 h3 z
    refine ⟨r, ?_, h6⟩
    show PySem.W.nsIn K a z = some r
    unfold PySem.W.nsIn
    rw [l]
    exact h5
end
/-! ### what is decided of the text -/
def fnScB (N ps : List Str) (sc : Scope) : Bool := (match sc.kind with | .function => true | _ => false) && !sc.isCoroutine && !sc.isGenerator && decide N.Nodup && decide (N.take ps.length = ps) &&
  (ps.all fun x => match sc.names.lookup x with | some .local => true | some .cell => true | _ => false) && sc.names.all fun y => match y.2 with | .free => false | _ => true
theorem fnScB_ok {N ps : List Str} {sc : Scope} (h : fnScB N ps sc = true) : FnScope N ps sc := by
  unfold fnScB at h
  simp only [Bool.and_eq_true, Bool.not_eq_true', decide_eq_true_eq, List.all_eq_true] at h
  obtain ⟨⟨⟨⟨⟨⟨h1, h2⟩, h3⟩, h4⟩, h5⟩, h6⟩, h7⟩ := h
  refine ⟨?_, h2, h3, h4, h5, fun x m => ?_, fun y m e => ?_⟩
  · split at h1
    · assumption
    · cases h1
  · have := h6 x m
    split at this
    · exact .inl (by assumption)
    · exact .inr (by assumption)
    · cases this
  · have := h7 y m
    rw [e] at this
    cases this
def defCk (T : List DefT) (cns : List Str) (t : DefT) : Bool := fnScB t.N t.ps (defScope t.st) && ckSs (ckOf T cns t) t.fd.body (defBody t.st) && decide (t.ps.length = t.fd.np) && decide (t.N.length = t.fd.ns)
theorem defCk_ok {T : List DefT} {cns : List Str} {t : DefT} (h : defCk T cns t = true) : DefOk T cns t := by
  unfold defCk at h
  simp only [Bool.and_eq_true, decide_eq_true_eq] at h
  exact ⟨fnScB_ok h.1.1.1, h.1.1.2, h.1.2, h.2⟩
def boxCk (t : DefT) : Bool := decide (t.name = "_law_box") && decide (t.fd.np = 1) && isBox (defBody t.st) && fnScB NBox ["script"] (defScope t.st) && lcls (defScope t.st) NBox && glb (defScope t.st) "list" && glb (defScope t.st) "len" && decide (t.ps = (["script"] : List Str))
def loadCk (t : DefT) : Bool := decide (t.name = "_law_load") && decide (t.fd.np = 1) && isLoad (defBody t.st) && fnScB NLoad ["box"] (defScope t.st) && lcls (defScope t.st) NLoad && glb (defScope t.st) "len" && glb (defScope t.st) "int" && decide (t.ps = (["box"] : List Str))
def drawCk (t : DefT) : Bool := decide (t.name = "_law_draw") && decide (t.fd.np = 2) && isDraw (defBody t.st) && fnScB NDraw ["box", "many"] (defScope t.st) && lcls (defScope t.st) NDraw && glb (defScope t.st) "_law_load" && glb (defScope t.st) "int" && decide (t.ps = (["box", "many"] : List Str))
/-- the three of the box, by their places -/
def prOf (ib il id : Nat) : Nat → Option (List D → M D) := fun g => if g = ib then some boxNew else if g = il then some (fun _ _ => none) else if g = id then some boxDraw else none
def lawCk (T : List DefT) (cns : List Str) (ib il id : Nat) : Bool := (match T[ib]?, T[il]?, T[id]? with
    | some b, some l, some d => boxCk b && loadCk l && drawCk d
    | _, _, _ => false) && decide (ib ≠ il) && decide (ib ≠ id) && decide (il ≠ id) &&
  (List.range T.length).all fun i => i == ib || i == il || i == id || (match T[i]? with
    | some t => defCk T cns t
    | none => true)
section
variable {PR : Program} {w : World} {K : PySem.W.Frag} {mg : Str → Option Value} {base : Heap} {T : List DefT} {cns : List Str} {con : Nat → D} {W : Nat}
theorem lawCk_ok {ib il id : Nat} (hc : lawCk T cns ib il id = true) (sn : Seen K w mg T cns con) (n g : Nat) (t : DefT) (e : T[g]? = some t) (hg : prOf ib il id g = none) :
    ∃ a fd, FnOk PR w K mg base CX0 (n + 2) a fd t.ps (spD K w mg t.fd.np (callN (T.map (·.fd)) con (prOf ib il id) W n g)) ∧ mg t.name = some (.ref a) ∧ Binds K fd t.ps [] ∧ Fun K t.name t.name t.st a fd := by
  unfold lawCk at hc
  simp only [Bool.and_eq_true, decide_eq_true_eq, List.all_eq_true, List.mem_range] at hc
  obtain ⟨⟨⟨⟨h1, n1⟩, n2⟩, n3⟩, h2⟩ := hc
  split at h1
  · rename_i tb tl td eb el ed
    simp only [Bool.and_eq_true] at h1
    obtain ⟨⟨cb, c_l⟩, cd⟩ := h1
    unfold boxCk at cb
    unfold loadCk at c_l
    unfold drawCk at cd
    simp only [Bool.and_eq_true, decide_eq_true_eq] at cb c_l cd
    obtain ⟨⟨⟨⟨⟨⟨⟨b1, b2⟩, b3⟩, b4⟩, b5⟩, b6⟩, b7⟩, b8⟩ := cb
    obtain ⟨⟨⟨⟨⟨⟨⟨l1, l2⟩, l3⟩, l4⟩, l5⟩, l6⟩, l7⟩, l8⟩ := c_l
    obtain ⟨⟨⟨⟨⟨⟨⟨d1, d2⟩, d3⟩, d4⟩, d5⟩, d6⟩, d7⟩, d8⟩ := cd
    have mb : ∀ x ∈ bis, mg x = none := sn.bi
    have tab := table (PR := PR) (base := base) (W := W) (c := 2) sn (pr := prOf ib il id) (fun i t e hp => ?_) (fun i t f e hp a fd F b m => ?_) n g t e
    · obtain ⟨a, fd, ps, h3, h4, h5, h6, h7⟩ := tab
      rw [h7 hg] at h3 h6
      exact ⟨a, fd, h3, h5, h6, h4⟩
    · have hl : i < T.length := by obtain ⟨q, _⟩ := List.getElem?_eq_some_iff.mp e; exact q
      have := h2 i hl
      unfold prOf at hp
      split at hp
      · cases hp
      · split at hp
        · cases hp
        · split at hp
          · cases hp
          · rename_i q1 q2 q3
            rw [e] at this
            simp only [Bool.or_eq_true, beq_iff_eq, q1, q2, q3, false_or] at this
            exact defCk_ok this
    · unfold prOf at hp
      split at hp
      · rename_i q1
        subst q1
        rw [eb] at e; cases e
        cases hp
        rw [b1] at F
        refine ⟨tb.ps, b, ?_⟩
        rw [b2, b8]
        exact (ok_box F b3 (fnScB_ok b4) b5 b6 b7 (mb _ (by simp [bis])) (mb _ (by simp [bis]))).mono (by omega)
      · split at hp
        · cases hp
          have no : ∀ vs H Q E, ¬spD K w mg t.fd.np (fun _ _ => none) vs H Q E := by
            rintro vs H Q E ⟨_, _, _, _, _, _, _, _, _, _, h, _⟩
            cases h
          exact ⟨t.ps, b, ⟨fun vs H Q E h => (no _ _ _ _ h).elim, fun A outer s H args us vs Q E _ _ _ _ h => (no _ _ _ _ h).elim⟩⟩
        · split at hp
          · rename_i q1
            subst q1
            rw [ed] at e; cases e
            cases hp
            rw [d1] at F
            obtain ⟨al, fl, Fl, ml, bl⟩ := sn.fun_ il tl el
            rw [l1] at Fl ml
            rw [l8] at bl
            refine ⟨td.ps, b, ?_⟩
            rw [d2, d8]
            exact ok_draw F d3 (fnScB_ok d4) d5 d6 d7 (mb _ (by simp [bis])) ml Fl.kp bl (ok_load Fl l3 (fnScB_ok l4) l5 l6 l7 (mb _ (by simp [bis])) (mb _ (by simp [bis])))
          · cases hp
  · cases h1
/-- what is asked of law -/
def spLaw (K : PySem.W.Frag) : Sp := fun vs H Q _ => ∃ (a : Addr) (ns : List Int), vs = [.ref a] ∧ ns.length ≤ 63 ∧ Only H ∧ SqL K H a (ns.map V.int) ∧ ∀ H', Q (.bl true) H'
theorem law_end {ib il id gl : Nat} (hc : lawCk T cns ib il id = true) {t : DefT} (e : T[gl]? = some t) (hg : prOf ib il id gl = none) (h1 : t.fd.np = 1) (hps : t.ps = (["script"] : List Str)) (n : Nat)
    (main : ∀ ns : List Int, ns.length ≤ 63 → ∃ b, callN (T.map (·.fd)) con (prOf ib il id) W n gl [.fn ns] none = some (.bl true, b)) (sn : Seen K w mg T cns con) :
    ∃ a fd, mg t.name = some (.ref a) ∧ Binds K fd (["script"] : List Str) [] ∧ Fun K t.name t.name t.st a fd ∧ FnOk PR w K mg base CX0 (n + 2) a fd ["script"] (spLaw K) := by
  obtain ⟨a, fd, F, m, b, FF⟩ := lawCk_ok (PR := PR) (base := base) (W := W) hc sn n gl t e hg
  rw [hps] at F b
  refine ⟨a, fd, m, b, FF, F.imp fun vs H Q E h => ?_⟩
  obtain ⟨ad, ns, rfl, hz, hO, hS, hQ⟩ := h
  obtain ⟨b', hm⟩ := main ns hz
  refine ⟨by rw [h1]; rfl, none, fun _ => False, none, [.fn ns], .bl true, b', trivial, fun _ z => z.elim, .cons ?_ .nil, hm, fun v H' bx' _ r => ?_⟩
  · simp only [Rep]
    exact ⟨ad, rfl, ScrAt.of (fun b => by rcases hO b with z | ⟨o, xs, z⟩; exact .inl z; exact .inr ⟨o, xs, z⟩) hS⟩
  · simp only [Rep] at r
    subst r
    exact hQ H'
end
end En

namespace En
open PySem PySem.Spec PyProof.Rows L2
/-! ### facts, one behind another -/
def FunOk (K : PySem.W.Frag) (mg : Str → Option Value) (t : DefT) : Prop := ∃ f fd, Fun K t.name t.name t.st f fd ∧ mg t.name = some (.ref f) ∧ Binds K fd t.ps []
def AllF (K : PySem.W.Frag) (mg : Str → Option Value) : List DefT → Prop
  | [] => True
  | t :: ts => FunOk K mg t ∧ AllF K mg ts
theorem AllF.get {K : PySem.W.Frag} {mg : Str → Option Value} : ∀ {T : List DefT} {i : Nat} {t : DefT}, AllF K mg T → T[i]? = some t → FunOk K mg t
  | [], i, t, _, e => by simp at e
  | t' :: T, 0, t, h, e => by simp at e; subst e; exact h.1
  | t' :: T, i + 1, t, h, e => AllF.get h.2 (by simpa using e)
def AllC (K : PySem.W.Frag) (w : World) (mg : Str → Option Value) : List (Str × D) → Prop
  | [] => True
  | c :: cs => ConK K w mg c.1 c.2 ∧ AllC K w mg cs
theorem AllC.get {K : PySem.W.Frag} {w : World} {mg : Str → Option Value} : ∀ {C : List (Str × D)} {i : Nat} {c : Str × D}, AllC K w mg C → C[i]? = some c → ConK K w mg c.1 c.2
  | [], i, t, _, e => by simp at e
  | t' :: T, 0, t, h, e => by simp at e; subst e; exact h.1
  | t' :: T, i + 1, t, h, e => AllC.get h.2 (by simpa using e)
def conOf (C : List (Str × D)) (i : Nat) : D := (C.getD i ("", .non)).2
def AllN (mg : Str → Option Value) : List Str → Prop
  | [] => True
  | x :: xs => mg x = none ∧ AllN mg xs
theorem AllN.get {mg : Str → Option Value} : ∀ {xs : List Str} {x : Str}, AllN mg xs → x ∈ xs → mg x = none
  | y :: ys, x, h, m => by
    rcases List.mem_cons.mp m with e | m
    · subst e; exact h.1
    · exact AllN.get h.2 m
theorem seen_of {K : PySem.W.Frag} {w : World} {mg : Str → Option Value} {T : List DefT} {C : List (Str × D)} (f : AllF K mg T) (c : AllC K w mg C) (n : AllN mg bis) : Seen K w mg T (C.map (·.1)) (conOf C) where
  fun_ := fun i t e => f.get e
  bi := fun x m => n.get m
  con := fun i x e => by
    rw [List.getElem?_map] at e
    obtain ⟨p, e1, rfl⟩ := Option.map_eq_some_iff.mp e
    have := c.get e1
    have e2 : conOf C i = p.2 := by unfold conOf; rw [List.getD_eq_getElem?_getD, e1]; rfl
    rw [e2]
    exact this
theorem Fun.inj {K : PySem.W.Frag} {x q : Str} {st : Stmt} {f : Addr} {fd fd' : FuncData} (a : Fun K x q st f fd) (b : Fun K x q st f fd') : fd = fd' := by
  obtain ⟨oc, od, kV, doc, pm, an, cdv, ct, osl, e, lk, _⟩ := a.ex
  obtain ⟨oc', od', kV', doc', pm', an', cdv', ct', osl', e', lk', _⟩ := b.ex
  rw [lk] at lk'
  cases lk'
  rfl
theorem law_fin {l : PySem.W.OpenLaw} {w : World} {K : PySem.W.Frag} {mg : Str → Option Value} {T : List DefT} {C : List (Str × D)} {W ib il id gl n : Nat} {t : DefT} {fa : Addr} {fd : FuncData} (sn : Seen K w mg T (C.map (·.1)) (conOf C)) (hc : lawCk T (C.map (·.1)) ib il id = true) (e : T[gl]? = some t) (hg : prOf ib il id gl = none) (h1 : t.fd.np = 1) (hps : t.ps = (["script"] : List Str))
    (main : ∀ ns : List Int, ns.length ≤ 63 → ∃ b, callN (T.map (·.fd)) (conOf C) (prOf ib il id) W n gl [.fn ns] none = some (.bl true, b)) (F : Fun K t.name t.name t.st fa fd) (m : mg t.name = some (.ref fa)) (hb : ∀ u : Value, bindArgs fd ⟨[u], []⟩ = pure [(("script" : Str), u)]) :
    ∃ fd : FuncData, (∀ (s : Shared) (v : Value), BindsTo s fd ⟨[v], []⟩ [("script", v)]) ∧ ∀ base : Heap, K.In base → base.Ns mainGlobals mg → FnOk l.prog w K mg base CX0 (n + 2) fa fd ["script"] (spLaw K) := by
  refine ⟨fd, fun s v => .of_eq (hb v), fun base _ _ => ?_⟩
  obtain ⟨a, fd', m', b, F', ok⟩ := law_end (PR := l.prog) (base := base) hc e hg h1 hps n main sn
  rw [m] at m'
  cases m'
  rw [Fun.inj F F']
  exact ok
end En

/-! What must be shown for a text of the small language to end as wished. -/
namespace En
open PySem PySem.Spec PyProof.Rows L2

/-- a comprehension over ds ends as wished: by an invariant of what was found so far -/
def LCP (g : CG) (wtf : Env → BS → (Bool → BS → Prop) → Prop) (wel : Env → BS → (D → BS → Prop) → Prop) (en : Env) (ds : List D) (b : BS) (K : D → BS → Prop) : Prop :=
  ∃ I : Nat → List D → BS → Prop, I 0 [] b ∧
      (∀ i d acc b, ds[i]? = some d → I i acc b → ∃ e1, bindG g d en = some e1 ∧ wtf e1 b fun k b1 => (k = true → wel e1 b1 fun x b2 => I (i + 1) (acc ++ [x]) b2) ∧ (k = false → I (i + 1) acc b1)) ∧
      ∀ r b, I ds.length r b → r.length ≤ sizeLine ∧ K (.lst r) b
/-- a loop over ds ends as wished -/
def FORP (g : CG) (wb : Env → BS → (Fl × Env × BS → Prop) → Prop) (ds : List D) (env : Env) (b : BS) (Q : Fl × Env × BS → Prop) : Prop :=
  ∃ I : Nat → Env → BS → Prop, I 0 env b ∧
      (∀ i d env b, ds[i]? = some d → I i env b → ∃ e1, bindG g d env = some e1 ∧ wb e1 b fun r => match r with
        | (.nxt, e, b') => I (i + 1) e b'
        | (.cnt, e, b') => I (i + 1) e b'
        | (.brk, e, b') => Q (.nxt, e, b')
        | (.ret d, e, b') => Q (.ret d, e, b')) ∧ ∀ env b, I ds.length env b → Q (.nxt, env, b)
@[irreducible] def rngI (ds : List D) : Option (List D) := rngD ds
theorem rngI_eq (ds : List D) : rngI ds = rngD ds := by unfold rngI; rfl
mutual
def we (cl : Calls) : CE → Env → BS → (D → BS → Prop) → Prop
  | .var i, env, b, K => ∃ d, env.get i = some d ∧ K d b
  | .glb i, _, b, K => K (cl.con i) b
  | .cst d, _, b, K => K d b
  | .bin op a c, env, b, K => we cl a env b fun x b1 => we cl c env b1 fun y b2 => ∃ z, binD op x y = some z ∧ K z b2
  | .neg a, env, b, K => we cl a env b fun x b1 => ∃ i, x = .int i ∧ K (.int (-i)) b1
  | .not a, env, b, K => we cl a env b fun x b1 => ∃ k, truD x = some k ∧ K (.bl (!k)) b1
  | .bop op es, env, b, K => web cl op es env b K
  | .cmp op a c, env, b, K => we cl a env b fun x b1 => we cl c env b1 fun y b2 => ∃ k, cmpD op x y = some k ∧ K (.bl k) b2
  | .chn o1 o2 a m c, env, b, K => we cl a env b fun x b1 => we cl m env b1 fun y b2 => ∃ k, cmpD o1 x y = some k ∧ (k = true → we cl c env b2 fun z b3 => ∃ k2, cmpD o2 y z = some k2 ∧ K (.bl k2) b3) ∧ (k = false → K (.bl false) b2)
  | .ife c a d, env, b, K => we cl c env b fun x b1 => ∃ k, truD x = some k ∧ (k = true → we cl a env b1 K) ∧ (k = false → we cl d env b1 K)
  | .tup es, env, b, K => wes cl es env b fun ds b1 => ds.length ≤ sizeLine ∧ K (.tup ds) b1
  | .lst es, env, b, K => wes cl es env b fun ds b1 => ds.length ≤ sizeLine ∧ K (.lst ds) b1
  | .dct ks vs, env, b, K => wes cl vs env b fun ds b1 => (ds.length = ks.length ∧ ks.length ≤ 15 ∧ flatKeys ks = true) ∧ K (.dct ks ds) b1
  | .idx a i, env, b, K => we cl a env b fun x b1 => we cl i env b1 fun y b2 => ∃ z, idxD x y = some z ∧ K z b2
  | .slc a lo hi, env, b, K => we cl a env b fun x b1 => weo cl lo env b1 fun l b2 => weo cl hi env b2 fun h b3 => ∃ z, slcD x l h = some z ∧ K z b3
  | .rev a, env, b, K => we cl a env b fun x b1 => ∃ z, revD x = some z ∧ K z b1
  | .call g es, env, b, K => wes cl es env b fun ds b1 => ∃ d b2, cl.fn g ds b1 = some (d, b2) ∧ K d b2
  | .bi bb es, env, b, K => wes cl es env b fun ds b1 => ∃ z, biD bb ds = some z ∧ K z b1
  | .mth m a es, env, b, K => we cl a env b fun x b1 => wes cl es env b1 fun ds b2 => ∃ z, mthD m x ds = some z ∧ K z b2
  | .lc g it ifs elt own, env, b, K => (∃ d b', ev cl (.lc g it ifs elt own) env b = some (d, b') ∧ K d b') ∨ wei cl it env b fun ds b1 => LCP g (fun e b K => wt cl ifs e b K) (fun e b K => we cl elt e b K) (wipeE env own) ds b1 K
def web (cl : Calls) (op : BoolOp) : CEs → Env → BS → (D → BS → Prop) → Prop
  | .nil, _, _, _ => False
  | .cons e .nil, env, b, K => we cl e env b K
  | .cons e (.cons f fs), env, b, K => we cl e env b fun x b1 => ∃ k, truD x = some k ∧ (goOn op k = true → web cl op (.cons f fs) env b1 K) ∧ (goOn op k = false → K x b1)
def weo (cl : Calls) : CO → Env → BS → (Option Int → BS → Prop) → Prop
  | .no, _, b, K => K none b
  | .so e, env, b, K => we cl e env b fun x b1 => ∃ i, x = .int i ∧ K (some i) b1
def wes (cl : Calls) : CEs → Env → BS → (List D → BS → Prop) → Prop
  | .nil, _, b, K => K [] b
  | .cons e es, env, b, K => we cl e env b fun x b1 => wes cl es env b1 fun r b2 => K (x :: r) b2
def wt (cl : Calls) : CEs → Env → BS → (Bool → BS → Prop) → Prop
  | .nil, _, b, K => K true b
  | .cons e .nil, env, b, K => we cl e env b fun x b1 => ∃ k, truD x = some k ∧ K k b1
  | .cons _ (.cons _ _), _, _, _ => False
def wei (cl : Calls) : CI → Env → BS → (List D → BS → Prop) → Prop
  | .it e, env, b, K => we cl e env b fun x b1 => ∃ ds, seqD x = some ds ∧ K ds b1
  | .rng es, env, b, K => wes cl es env b fun ds b1 => ∃ r, rngI ds = some r ∧ K r b1
  | .zip a c, env, b, K => we cl a env b fun x b1 => we cl c env b1 fun y b2 => ∃ r, zipD x y = some r ∧ K r b2
  | .enum a, env, b, K => we cl a env b fun x b1 => ∃ r, enumD x = some r ∧ K r b1
end
variable {cl : Calls} {W : Nat}
theorem lc_run {f : D → M (Option D)} : ∀ (ds : List D) (I : Nat → List D → BS → Prop) (acc : List D) (b : BS), I 0 acc b →
    (∀ i d acc b, ds[i]? = some d → I i acc b → ∃ o b1, f d b = some (o, b1) ∧ I (i + 1) (match o with | some x => acc ++ [x] | none => acc) b1) → ∃ r b', lcLoop f ds b = some (r, b') ∧ I ds.length (acc ++ r) b'
  | [], I, acc, b, h0, _ => ⟨[], b, rfl, by simpa using h0⟩
  | d :: ds, I, acc, b, h0, hs => by
    obtain ⟨o, b1, h1, h2⟩ := hs 0 d acc b rfl h0
    obtain ⟨r, b2, h3, h4⟩ := lc_run ds (fun i => I (i + 1)) _ b1 h2 fun i d' acc' b' hd hi => hs (i + 1) d' acc' b' (by simpa using hd) hi
    simp only [lcLoop, bind_def, M.bnd, h1, h3]
    cases o with
    | none => exact ⟨r, b2, rfl, h4⟩
    | some x => exact ⟨x :: r, b2, rfl, by simpa using h4⟩
mutual
theorem we_ok : ∀ (c : CE) (env : Env) (b : BS) (K : D → BS → Prop), we cl c env b K → ∃ d b', ev cl c env b = some (d, b') ∧ K d b'
  | .var i, env, b, K, h => by
    obtain ⟨d, h1, h2⟩ := h
    exact ⟨d, b, by simp only [ev, lift_some]; exact ⟨h1, trivial⟩, h2⟩
  | .glb i, env, b, K, h => ⟨_, b, by simp only [ev, pure_def, ret_some]; trivial, h⟩
  | .cst d, env, b, K, h => ⟨_, b, by simp only [ev, pure_def, ret_some]; trivial, h⟩
  | .bin op a c, env, b, K, h => by
    obtain ⟨x, b1, e1, h⟩ := we_ok a env b _ h
    obtain ⟨y, b2, e2, z, h1, h2⟩ := we_ok c env b1 _ h
    exact ⟨z, b2, by simp only [ev, bind_def, bnd_some, lift_some]; exact ⟨x, b1, e1, y, b2, e2, h1, rfl⟩, h2⟩
  | .neg a, env, b, K, h => by
    obtain ⟨x, b1, e1, i, rfl, h⟩ := we_ok a env b _ h
    exact ⟨_, b1, by simp only [ev, bind_def, bnd_some]; exact ⟨_, b1, e1, rfl⟩, h⟩
  | .not a, env, b, K, h => by
    obtain ⟨x, b1, e1, k, h1, h⟩ := we_ok a env b _ h
    exact ⟨_, b1, by simp only [ev, bind_def, pure_def, bnd_some, ret_some]; exact ⟨k, b1, tru_some.mpr ⟨x, e1, h1⟩, rfl, rfl⟩, h⟩
  | .bop op es, env, b, K, h => by
    obtain ⟨x, b1, e1, h⟩ := web_ok op es env b K h
    exact ⟨x, b1, by simp only [ev]; exact e1, h⟩
  | .cmp op a c, env, b, K, h => by
    obtain ⟨x, b1, e1, h⟩ := we_ok a env b _ h
    obtain ⟨y, b2, e2, z, h1, h2⟩ := we_ok c env b1 _ h
    exact ⟨_, b2, by simp only [ev, bind_def, pure_def, bnd_some, lift_some, ret_some]; exact ⟨x, b1, e1, y, b2, e2, z, _, ⟨h1, rfl⟩, rfl, rfl⟩, h2⟩
  | .chn o1 o2 a m c, env, b, K, h => by
    obtain ⟨x, b1, e1, h⟩ := we_ok a env b _ h
    obtain ⟨y, b2, e2, k, h1, h2, h3⟩ := we_ok m env b1 _ h
    cases k with
    | true =>
      obtain ⟨z, b3, e3, k2, h4, h5⟩ := we_ok c env b2 _ (h2 rfl)
      exact ⟨_, b3, by simp only [ev, bind_def, pure_def, bnd_some, lift_some, ret_some]; exact ⟨x, b1, e1, y, b2, e2, true, _, ⟨h1, rfl⟩, by simp only [if_true, bnd_some, lift_some, ret_some]; exact ⟨z, b3, e3, k2, _, ⟨h4, rfl⟩, rfl, rfl⟩⟩, h5⟩
    | false => exact ⟨_, b2, by simp only [ev, bind_def, pure_def, bnd_some, lift_some, ret_some]; exact ⟨x, b1, e1, y, b2, e2, false, _, ⟨h1, rfl⟩, by simp [ret_some]⟩, h3 rfl⟩
  | .ife c a d, env, b, K, h => by
    obtain ⟨x, b1, e1, k, h1, h2, h3⟩ := we_ok c env b _ h
    cases k with
    | true =>
      obtain ⟨z, b2, e2, h4⟩ := we_ok a env b1 K (h2 rfl)
      exact ⟨z, b2, by simp only [ev, bind_def, bnd_some]; exact ⟨true, b1, tru_some.mpr ⟨x, e1, h1⟩, by simpa using e2⟩, h4⟩
    | false =>
      obtain ⟨z, b2, e2, h4⟩ := we_ok d env b1 K (h3 rfl)
      exact ⟨z, b2, by simp only [ev, bind_def, bnd_some]; exact ⟨false, b1, tru_some.mpr ⟨x, e1, h1⟩, by simpa using e2⟩, h4⟩
  | .tup es, env, b, K, h => by
    obtain ⟨ds, b1, e1, h1, h2⟩ := wes_ok es env b _ h
    exact ⟨_, b1, by simp only [ev, bind_def, pure_def, bnd_some]; exact ⟨ds, b1, e1, by rw [if_pos h1]; rfl⟩, h2⟩
  | .lst es, env, b, K, h => by
    obtain ⟨ds, b1, e1, h1, h2⟩ := wes_ok es env b _ h
    exact ⟨_, b1, by simp only [ev, bind_def, pure_def, bnd_some]; exact ⟨ds, b1, e1, by rw [if_pos h1]; rfl⟩, h2⟩
  | .dct ks vs, env, b, K, h => by
    obtain ⟨ds, b1, e1, h1, h2⟩ := wes_ok vs env b _ h
    exact ⟨_, b1, by simp only [ev, bind_def, pure_def, bnd_some]; exact ⟨ds, b1, e1, by rw [if_pos h1]; rfl⟩, h2⟩
  | .idx a i, env, b, K, h => by
    obtain ⟨x, b1, e1, h⟩ := we_ok a env b _ h
    obtain ⟨y, b2, e2, z, h1, h2⟩ := we_ok i env b1 _ h
    exact ⟨z, b2, by simp only [ev, bind_def, bnd_some, lift_some]; exact ⟨x, b1, e1, y, b2, e2, h1, rfl⟩, h2⟩
  | .slc a lo hi, env, b, K, h => by
    obtain ⟨x, b1, e1, h⟩ := we_ok a env b _ h
    obtain ⟨l, b2, e2, h⟩ := weo_ok lo env b1 _ h
    obtain ⟨u, b3, e3, z, h1, h2⟩ := weo_ok hi env b2 _ h
    exact ⟨z, b3, by simp only [ev, bind_def, bnd_some, lift_some]; exact ⟨x, b1, e1, l, b2, e2, u, b3, e3, h1, rfl⟩, h2⟩
  | .rev a, env, b, K, h => by
    obtain ⟨x, b1, e1, z, h1, h2⟩ := we_ok a env b _ h
    exact ⟨z, b1, by simp only [ev, bind_def, bnd_some, lift_some]; exact ⟨x, b1, e1, h1, rfl⟩, h2⟩
  | .call g es, env, b, K, h => by
    obtain ⟨ds, b1, e1, d, b2, h1, h2⟩ := wes_ok es env b _ h
    exact ⟨d, b2, by simp only [ev, bind_def, bnd_some]; exact ⟨ds, b1, e1, h1⟩, h2⟩
  | .bi bb es, env, b, K, h => by
    obtain ⟨ds, b1, e1, z, h1, h2⟩ := wes_ok es env b _ h
    exact ⟨z, b1, by simp only [ev, bind_def, bnd_some, lift_some]; exact ⟨ds, b1, e1, h1, rfl⟩, h2⟩
  | .mth m a es, env, b, K, h => by
    obtain ⟨x, b1, e1, h⟩ := we_ok a env b _ h
    obtain ⟨ds, b2, e2, z, h1, h2⟩ := wes_ok es env b1 _ h
    exact ⟨z, b2, by simp only [ev, bind_def, bnd_some, lift_some]; exact ⟨x, b1, e1, ds, b2, e2, h1, rfl⟩, h2⟩
  | .lc g it ifs elt own, env, b, K, h => by
    rcases h with h | h
    · exact h
    obtain ⟨ds, b1, e1, I, h0, hs, hd⟩ := wei_ok it env b _ h
    obtain ⟨r, b2, h1, h2⟩ := lc_run (f := lcF cl g ifs elt own env) ds I [] b1 h0 fun i d acc b hd hi => by
      obtain ⟨en1, h1, h2⟩ := hs i d acc b hd hi
      obtain ⟨k, b2, e2, h3, h4⟩ := wt_ok ifs en1 b _ h2
      unfold lcF
      rw [h1]
      cases k with
      | true =>
        obtain ⟨x, b3, e3, h5⟩ := we_ok elt en1 b2 _ (h3 rfl)
        exact ⟨some x, b3, by simp only [bind_def, pure_def, bnd_some]; exact ⟨true, b2, e2, by simp only [if_true, bnd_some, ret_some]; exact ⟨x, b3, e3, rfl, rfl⟩⟩, h5⟩
      | false => exact ⟨none, b2, by simp only [bind_def, pure_def, bnd_some]; exact ⟨false, b2, e2, by simp [ret_some]⟩, h4 rfl⟩
    rw [List.nil_append] at h2
    obtain ⟨hz, hk⟩ := hd r b2 h2
    refine ⟨_, b2, ?_, hk⟩
    simp only [ev, bind_def, bnd_some]
    exact ⟨ds, b1, e1, r, b2, h1, by rw [if_pos hz]; rfl⟩
theorem web_ok (op : BoolOp) : ∀ (c : CEs) (env : Env) (b : BS) (K : D → BS → Prop), web cl op c env b K → ∃ d b', evB cl op c env b = some (d, b') ∧ K d b'
  | .nil, env, b, K, h => h.elim
  | .cons e .nil, env, b, K, h => by
    obtain ⟨x, b1, e1, h⟩ := we_ok e env b K h
    exact ⟨x, b1, by simp only [evB]; exact e1, h⟩
  | .cons e (.cons f fs), env, b, K, h => by
    obtain ⟨x, b1, e1, k, h1, h2, h3⟩ := we_ok e env b _ h
    cases hg : goOn op k with
    | true =>
      obtain ⟨y, b2, e2, h4⟩ := web_ok op (.cons f fs) env b1 K (h2 hg)
      refine ⟨y, b2, ?_, h4⟩
      simp only [evB, bind_def, bnd_some, lift_some]
      refine ⟨x, b1, e1, k, _, ⟨h1, rfl⟩, ?_⟩
      cases op <;> cases k <;> first | exact e2 | (simp [goOn] at hg)
    | false =>
      refine ⟨x, b1, ?_, h3 hg⟩
      simp only [evB, bind_def, bnd_some, lift_some]
      refine ⟨x, b1, e1, k, _, ⟨h1, rfl⟩, ?_⟩
      cases op <;> cases k <;> first | rfl | (simp [goOn] at hg)
theorem weo_ok : ∀ (c : CO) (env : Env) (b : BS) (K : Option Int → BS → Prop), weo cl c env b K → ∃ d b', evO cl c env b = some (d, b') ∧ K d b'
  | .no, env, b, K, h => ⟨none, b, by simp only [evO, pure_def, ret_some]; trivial, h⟩
  | .so e, env, b, K, h => by
    obtain ⟨x, b1, e1, i, rfl, h⟩ := we_ok e env b _ h
    exact ⟨_, b1, by simp only [evO, bind_def, bnd_some]; exact ⟨_, b1, e1, rfl⟩, h⟩
theorem wes_ok : ∀ (c : CEs) (env : Env) (b : BS) (K : List D → BS → Prop), wes cl c env b K → ∃ d b', evs cl c env b = some (d, b') ∧ K d b'
  | .nil, env, b, K, h => ⟨[], b, by simp only [evs, pure_def, ret_some]; trivial, h⟩
  | .cons e es, env, b, K, h => by
    obtain ⟨x, b1, e1, h⟩ := we_ok e env b _ h
    obtain ⟨r, b2, e2, h⟩ := wes_ok es env b1 _ h
    exact ⟨_, b2, by simp only [evs, bind_def, pure_def, bnd_some, ret_some]; exact ⟨x, b1, e1, r, b2, e2, rfl, rfl⟩, h⟩
theorem wt_ok : ∀ (c : CEs) (env : Env) (b : BS) (K : Bool → BS → Prop), wt cl c env b K → ∃ d b', tvs cl c env b = some (d, b') ∧ K d b'
  | .nil, env, b, K, h => ⟨true, b, by simp only [tvs, pure_def, ret_some]; trivial, h⟩
  | .cons e .nil, env, b, K, h => by
    obtain ⟨x, b1, e1, k, h1, h⟩ := we_ok e env b _ h
    exact ⟨k, b1, by simp only [tvs]; exact tru_some.mpr ⟨x, e1, h1⟩, h⟩
  | .cons _ (.cons _ _), env, b, K, h => h.elim
theorem wei_ok : ∀ (c : CI) (env : Env) (b : BS) (K : List D → BS → Prop), wei cl c env b K → ∃ d b', evI cl c env b = some (d, b') ∧ K d b'
  | .it e, env, b, K, h => by
    obtain ⟨x, b1, e1, z, h1, h2⟩ := we_ok e env b _ h
    exact ⟨z, b1, by simp only [evI, bind_def, bnd_some, lift_some]; exact ⟨x, b1, e1, h1, rfl⟩, h2⟩
  | .rng es, env, b, K, h => by
    obtain ⟨ds, b1, e1, z, h1, h2⟩ := wes_ok es env b _ h
    rw [rngI_eq] at h1
    exact ⟨z, b1, by simp only [evI, bind_def, bnd_some, lift_some]; exact ⟨ds, b1, e1, h1, rfl⟩, h2⟩
  | .zip a c, env, b, K, h => by
    obtain ⟨x, b1, e1, h⟩ := we_ok a env b _ h
    obtain ⟨y, b2, e2, z, h1, h2⟩ := we_ok c env b1 _ h
    exact ⟨z, b2, by simp only [evI, bind_def, bnd_some, lift_some]; exact ⟨x, b1, e1, y, b2, e2, h1, rfl⟩, h2⟩
  | .enum a, env, b, K, h => by
    obtain ⟨x, b1, e1, z, h1, h2⟩ := we_ok a env b _ h
    exact ⟨z, b1, by simp only [evI, bind_def, bnd_some, lift_some]; exact ⟨x, b1, e1, h1, rfl⟩, h2⟩
end
mutual
def ws (cl : Calls) (W : Nat) : CS → Env → BS → (Fl × Env × BS → Prop) → Prop
  | .set i c, env, b, Q => we cl c env b fun d b1 => i < env.length ∧ Q (.nxt, (frzE (skA c) env).set i (some (d, fr c && isMut d)), b1)
  | .setT g c, env, b, Q => we cl c env b fun d b1 => ∃ e1, bindG g d (frzE (skA c) env) = some e1 ∧ Q (.nxt, e1, b1)
  | .par gs es, env, b, Q => wes cl es env b fun ds b1 => ∃ e1, bindP gs ds (frs es) (frzE (skAs es) env) = some e1 ∧ Q (.nxt, e1, b1)
  | .aug i op c, env, b, Q => ∃ x, env.get i = some x ∧ we cl c env b fun y b1 => ∃ z, augD op x y = some z ∧ i < env.length ∧ Q (.nxt, (frzE (sk c) env).set i (some (z, false)), b1)
  | .stIx i k c, env, b, Q => we cl c env b fun v b1 => we cl k env b1 fun kd b2 => ∃ x, ownAt (frzE (skA c ++ sk k) env) i = some x ∧ ∃ x', putX x kd v = some x' ∧ Q (.nxt, (frzE (skA c ++ sk k) env).set i (some (x', true)), b2)
  | .augIx i op k c, env, b, Q => we cl k env b fun kd b1 => ∃ x, ownAt (frzE (sk k ++ sk c) env) i = some x ∧ ∃ old, idxD x kd = some old ∧ we cl c env b1 fun v b2 => ∃ z, augD op old v = some z ∧ ∃ x', putIx x kd z = some x' ∧ Q (.nxt, (frzE (sk k ++ sk c) env).set i (some (x', true)), b2)
  | .app i c, env, b, Q => we cl c env b fun v b1 => ∃ ds, ownAt (frzE (skA c) env) i = some (.lst ds) ∧ ds.length < sizeLine ∧ Q (.nxt, (frzE (skA c) env).set i (some (.lst (ds ++ [v]), true)), b1)
  | .ext i c, env, b, Q => we cl c env b fun v b1 => ∃ ds es, ownAt (frzE (sk c) env) i = some (.lst ds) ∧ seqD v = some es ∧ ds.length + es.length ≤ sizeLine ∧ Q (.nxt, (frzE (sk c) env).set i (some (.lst (ds ++ es), true)), b1)
  | .setPop j i e, env, b, Q => weo cl e env b fun k b1 => ∃ x, ownAt (frzE (skO e) env) i = some x ∧ ∃ v x', popD x k = some (v, x') ∧ j < env.length ∧ Q (.nxt, ((frzE (skO e) env).set i (some (x', true))).set j (some (v, false)), b1)
  | .appPop _ _ _, _, _, _ => False
  | .expr c, env, b, Q => we cl c env b fun _ b1 => Q (.nxt, frzE (sk c) env, b1)
  | .ret c, env, b, Q => we cl c env b fun d b1 => Q (.ret d, env, b1)
  | .retN, env, b, Q => Q (.ret .non, env, b)
  | .ife c t u, env, b, Q => we cl c env b fun x b1 => ∃ k, truD x = some k ∧ (k = true → wss cl W t (frzE (sk c) env) b1 Q) ∧ (k = false → wss cl W u (frzE (sk c) env) b1 Q)
  | .forr g it body, env, b, Q => (∃ r, xs cl W (.forr g it body) env b = some r ∧ Q r) ∨ wei cl it env b fun ds b1 => FORP g (fun e b Q => wss cl W body e b Q) ds (frzE (skIA it) env) b1 Q
  | .whl c body, env, b, Q => ∃ (I : Nat → Env → BS → Prop) (m : Nat), m < W ∧ I m env b ∧ ∀ m env b, I m env b → we cl c env b fun x b1 => ∃ k, truD x = some k ∧ (k = false → Q (.nxt, frzE (sk c) env, b1)) ∧
      (k = true → wss cl W body (frzE (sk c) env) b1 fun r => match r with
        | (.nxt, e, b') => ∃ m', m' < m ∧ I m' e b'
        | (.cnt, e, b') => ∃ m', m' < m ∧ I m' e b'
        | (.brk, e, b') => Q (.nxt, e, b')
        | (.ret d, e, b') => Q (.ret d, e, b'))
  | .brk, env, b, Q => Q (.brk, env, b)
  | .cnt, env, b, Q => Q (.cnt, env, b)
  | .pas, env, b, Q => Q (.nxt, env, b)
def wss (cl : Calls) (W : Nat) : List CS → Env → BS → (Fl × Env × BS → Prop) → Prop
  | [], env, b, Q => Q (.nxt, env, b)
  | s :: ss, env, b, Q => ws cl W s env b fun r => match r with
    | (.nxt, e, b') => wss cl W ss e b' Q
    | (.brk, e, b') => Q (.brk, e, b')
    | (.cnt, e, b') => Q (.cnt, e, b')
    | (.ret d, e, b') => Q (.ret d, e, b')
end
theorem for_run {g : CG} {f : Env → BS → SR} {Q : Fl × Env × BS → Prop} : ∀ (ds : List D) (I : Nat → Env → BS → Prop) (env : Env) (b : BS), I 0 env b →
    (∀ i d env b, ds[i]? = some d → I i env b → ∃ e1 r, bindG g d env = some e1 ∧ f e1 b = some r ∧ match r with
        | (.nxt, e, b') => I (i + 1) e b'
        | (.cnt, e, b') => I (i + 1) e b'
        | (.brk, e, b') => Q (.nxt, e, b')
        | (.ret d, e, b') => Q (.ret d, e, b')) → (∀ env b, I ds.length env b → Q (.nxt, env, b)) → ∃ r, forLoop g f ds env b = some r ∧ Q r
  | [], I, env, b, h0, _, hd => ⟨_, rfl, hd env b h0⟩
  | d :: ds, I, env, b, h0, hs, hd => by
    obtain ⟨e1, r, h1, h2, h3⟩ := hs 0 d env b rfl h0
    obtain ⟨fl, e, b'⟩ := r
    have next : I 1 e b' → ∃ r, forLoop g f ds e b' = some r ∧ Q r := fun h => for_run ds (fun i => I (i + 1)) e b' h (fun i d' en bb hd hi => hs (i + 1) d' en bb (by simpa using hd) hi) fun en bb h => hd en bb (by simpa using h)
    cases fl with
    | nxt => obtain ⟨r, h4, h5⟩ := next h3; exact ⟨r, by simp only [forLoop, h1, h2]; exact h4, h5⟩
    | cnt => obtain ⟨r, h4, h5⟩ := next h3; exact ⟨r, by simp only [forLoop, h1, h2]; exact h4, h5⟩
    | brk => exact ⟨_, by simp only [forLoop, h1, h2], h3⟩
    | ret d => exact ⟨_, by simp only [forLoop, h1, h2], h3⟩
theorem whl_run {c : Env → BS → Option (Bool × BS)} {z : List Nat} {f : Env → BS → SR} {Q : Fl × Env × BS → Prop} {I : Nat → Env → BS → Prop}
    (hs : ∀ m env b, I m env b → ∃ k b1, c env b = some (k, b1) ∧ (k = false → Q (.nxt, frzE z env, b1)) ∧ (k = true → ∃ r, f (frzE z env) b1 = some r ∧ match r with
        | (.nxt, e, b') => ∃ m', m' < m ∧ I m' e b'
        | (.cnt, e, b') => ∃ m', m' < m ∧ I m' e b'
        | (.brk, e, b') => Q (.nxt, e, b')
        | (.ret d, e, b') => Q (.ret d, e, b'))) : ∀ (W m : Nat) (env : Env) (b : BS), m < W → I m env b → ∃ r, whlN c z f W env b = some r ∧ Q r
  | 0, m, env, b, hm, _ => absurd hm (Nat.not_lt_zero m)
  | W + 1, m, env, b, hm, hi => by
    obtain ⟨k, b1, h1, h2, h3⟩ := hs m env b hi
    cases k with
    | false => exact ⟨_, by simp only [whlN, h1], h2 rfl⟩
    | true =>
      obtain ⟨r, h4, h5⟩ := h3 rfl
      obtain ⟨fl, e, b'⟩ := r
      cases fl with
      | nxt =>
        obtain ⟨m', hm', hi'⟩ := h5
        obtain ⟨r, h6, h7⟩ := whl_run hs W m' e b' (by omega) hi'
        exact ⟨r, by simp only [whlN, h1, h4]; exact h6, h7⟩
      | cnt =>
        obtain ⟨m', hm', hi'⟩ := h5
        obtain ⟨r, h6, h7⟩ := whl_run hs W m' e b' (by omega) hi'
        exact ⟨r, by simp only [whlN, h1, h4]; exact h6, h7⟩
      | brk => exact ⟨_, by simp only [whlN, h1, h4], h5⟩
      | ret d => exact ⟨_, by simp only [whlN, h1, h4], h5⟩
mutual
theorem ws_ok : ∀ (s : CS) (env : Env) (b : BS) (Q : Fl × Env × BS → Prop), ws cl W s env b Q → ∃ r, xs cl W s env b = some r ∧ Q r
  | .set i c, env, b, Q, h => by
    obtain ⟨d, b1, e1, h1, h2⟩ := we_ok c env b _ h
    exact ⟨_, by simp only [xs, e1, if_pos h1], h2⟩
  | .setT g c, env, b, Q, h => by
    obtain ⟨d, b1, e1, en, h1, h2⟩ := we_ok c env b _ h
    exact ⟨_, by simp only [xs, e1, h1], h2⟩
  | .par gs es, env, b, Q, h => by
    obtain ⟨d, b1, e1, en, h1, h2⟩ := wes_ok es env b _ h
    exact ⟨_, by simp only [xs, e1, h1], h2⟩
  | .aug i op c, env, b, Q, h => by
    obtain ⟨x, hx, h⟩ := h
    obtain ⟨d, b1, e1, z, h1, h2, h3⟩ := we_ok c env b _ h
    exact ⟨_, by simp only [xs, hx, e1, h1, if_pos h2], h3⟩
  | .stIx i k c, env, b, Q, h => by
    obtain ⟨v, b1, e1, h⟩ := we_ok c env b _ h
    obtain ⟨kd, b2, e2, x, h1, x', h2, h3⟩ := we_ok k env b1 _ h
    exact ⟨_, by simp only [xs, e1, e2, h1, h2], h3⟩
  | .augIx i op k c, env, b, Q, h => by
    obtain ⟨kd, b1, e1, x, h1, old, h2, h⟩ := we_ok k env b _ h
    obtain ⟨v, b2, e2, z, h3, x', h4, h5⟩ := we_ok c env b1 _ h
    exact ⟨_, by simp only [xs, e1, h1, h2, e2, h3, h4], h5⟩
  | .app i c, env, b, Q, h => by
    obtain ⟨v, b1, e1, ds, h1, h2, h3⟩ := we_ok c env b _ h
    exact ⟨_, by simp only [xs, e1, h1, if_pos h2], h3⟩
  | .ext i c, env, b, Q, h => by
    obtain ⟨v, b1, e1, ds, es, h1, h0, h2, h3⟩ := we_ok c env b _ h
    exact ⟨_, by simp only [xs, e1, h1, h0, if_pos h2], h3⟩
  | .setPop j i e, env, b, Q, h => by
    obtain ⟨k, b1, e1, x, h1, v, x', h2, h3, h4⟩ := weo_ok e env b _ h
    exact ⟨_, by simp only [xs, e1, h1, h2, h3, if_true], h4⟩
  | .appPop _ _ _, env, b, Q, h => h.elim
  | .expr c, env, b, Q, h => by
    obtain ⟨v, b1, e1, h⟩ := we_ok c env b _ h
    exact ⟨_, by simp only [xs, e1], h⟩
  | .ret c, env, b, Q, h => by
    obtain ⟨v, b1, e1, h⟩ := we_ok c env b _ h
    exact ⟨_, by simp only [xs, e1], h⟩
  | .retN, env, b, Q, h => ⟨_, by simp only [xs], h⟩
  | .ife c t u, env, b, Q, h => by
    obtain ⟨x, b1, e1, k, h1, h2, h3⟩ := we_ok c env b _ h
    have e : M.tru (ev cl c env) b = some (k, b1) := tru_some.mpr ⟨x, e1, h1⟩
    cases k with
    | true =>
      obtain ⟨r, h4, h5⟩ := wss_ok t _ b1 Q (h2 rfl)
      exact ⟨r, by simp only [xs, e, if_true]; exact h4, h5⟩
    | false =>
      obtain ⟨r, h4, h5⟩ := wss_ok u _ b1 Q (h3 rfl)
      exact ⟨r, by simp only [xs, e]; simpa using h4, h5⟩
  | .forr g it body, env, b, Q, h => by
    rcases h with h | h
    · exact h
    obtain ⟨ds, b1, e1, I, h0, hs, hd⟩ := wei_ok it env b _ h
    obtain ⟨r, h1, h2⟩ := for_run (g := g) (f := fun e b => xss cl W body e b) (Q := Q) ds I _ b1 h0 (fun i d en bb hd hi => by
      obtain ⟨en1, h1, h2⟩ := hs i d en bb hd hi
      obtain ⟨r, h3, h4⟩ := wss_ok body en1 bb _ h2
      exact ⟨en1, r, h1, h3, h4⟩) hd
    exact ⟨r, by simp only [xs, e1]; exact h1, h2⟩
  | .whl c body, env, b, Q, h => by
    obtain ⟨I, m, hm, hi, hs⟩ := h
    obtain ⟨r, h1, h2⟩ := whl_run (c := fun e b => M.tru (ev cl c e) b) (z := sk c) (f := fun e b => xss cl W body e b) (Q := Q) (I := I) (fun m en bb hi => by
      obtain ⟨x, b1, e1, k, h1, h2, h3⟩ := we_ok c en bb _ (hs m en bb hi)
      exact ⟨k, b1, tru_some.mpr ⟨x, e1, h1⟩, h2, fun hk => wss_ok body _ b1 _ (h3 hk)⟩) W m env b hm hi
    exact ⟨r, by simp only [xs]; exact h1, h2⟩
  | .brk, env, b, Q, h => ⟨_, by simp only [xs], h⟩
  | .cnt, env, b, Q, h => ⟨_, by simp only [xs], h⟩
  | .pas, env, b, Q, h => ⟨_, by simp only [xs], h⟩
theorem wss_ok : ∀ (s : List CS) (env : Env) (b : BS) (Q : Fl × Env × BS → Prop), wss cl W s env b Q → ∃ r, xss cl W s env b = some r ∧ Q r
  | [], env, b, Q, h => ⟨_, by simp only [xss], h⟩
  | s :: ss, env, b, Q, h => by
    obtain ⟨r, h1, h2⟩ := ws_ok s env b _ h
    obtain ⟨fl, e, b'⟩ := r
    cases fl with
    | nxt =>
      obtain ⟨r, h3, h4⟩ := wss_ok ss e b' Q h2
      exact ⟨r, by simp only [xss, h1]; exact h3, h4⟩
    | brk => exact ⟨_, by simp only [xss, h1], h2⟩
    | cnt => exact ⟨_, by simp only [xss, h1], h2⟩
    | ret d => exact ⟨_, by simp only [xss, h1], h2⟩
end
/-- a call: its body ends as wished -/
theorem callN_wp {T : List FDef} {con : Nat → D} {pr : Nat → Option (List D → M D)} {W n g : Nat} {fd : FDef} (e : T[g]? = some fd) (hp : pr g = none) (ds : List D) (hl : ds.length = fd.np) (b : BS) (K : D → BS → Prop)
    (h : wss ⟨callN T con pr W n, con⟩ W fd.body (env0 fd ds) b fun r => match r with
      | (.ret d, _, b') => K d b'
      | (.nxt, _, b') => K .non b'
      | _ => False) : ∃ d b', callN T con pr W (n + 1) g ds b = some (d, b') ∧ K d b' := by
  obtain ⟨r, h1, h2⟩ := wss_ok fd.body (env0 fd ds) b _ h
  obtain ⟨fl, en, b'⟩ := r
  cases fl with
  | ret d => exact ⟨d, b', by simp only [callN, hp, e, hl, if_true, h1], h2⟩
  | nxt => exact ⟨.non, b', by simp only [callN, hp, e, hl, if_true, h1], h2⟩
  | brk => exact h2.elim
  | cnt => exact h2.elim
theorem callN_eq {T : List FDef} {con : Nat → D} {pr : Nat → Option (List D → M D)} {W n g : Nat} {fd : FDef} (e : T[g]? = some fd) (hp : pr g = none) (ds : List D) (hl : ds.length = fd.np) (b b1 : BS) (d1 : D)
    (h : wss ⟨callN T con pr W n, con⟩ W fd.body (env0 fd ds) b fun r => match r with
      | (.ret d, _, b') => d = d1 ∧ b' = b1
      | (.nxt, _, b') => D.non = d1 ∧ b' = b1
      | _ => False) : callN T con pr W (n + 1) g ds b = some (d1, b1) := by
  obtain ⟨d, b', h1, rfl, rfl⟩ := callN_wp e hp ds hl b (fun d b' => d = d1 ∧ b' = b1) (by
    obtain ⟨r, h1, h2⟩ := wss_ok fd.body (env0 fd ds) b _ h
    refine cast ?_ h
    congr)
  exact h1
@[irreducible] def callI (T : List FDef) (con : Nat → D) (pr : Nat → Option (List D → M D)) (W n g : Nat) (ds : List D) : M D := callN T con pr W n g ds
theorem callI_eq (T : List FDef) (con : Nat → D) (pr : Nat → Option (List D → M D)) (W n : Nat) : callI T con pr W n = callN T con pr W n := by
  funext g ds
  unfold callI
  rfl
theorem call_wp {T : List FDef} {con : Nat → D} {pr : Nat → Option (List D → M D)} {W n g : Nat} {fd : FDef} (e : T[g]? = some fd) (hp : pr g = none) (ds : List D) (hl : ds.length = fd.np) (b : BS) (K : D → BS → Prop)
    (h : wss ⟨callI T con pr W n, con⟩ W fd.body (env0 fd ds) b fun r => match r with
      | (.ret d, _, b') => K d b'
      | (.nxt, _, b') => K .non b'
      | _ => False) : ∃ d b', callI T con pr W (n + 1) g ds b = some (d, b') ∧ K d b' := by
  rw [callI_eq] at h ⊢
  exact callN_wp e hp ds hl b K h
theorem call_eq {T : List FDef} {con : Nat → D} {pr : Nat → Option (List D → M D)} {W n g : Nat} {fd : FDef} (e : T[g]? = some fd) (hp : pr g = none) (ds : List D) (hl : ds.length = fd.np) (b b1 : BS) (d1 : D)
    (h : wss ⟨callI T con pr W n, con⟩ W fd.body (env0 fd ds) b fun r => match r with
      | (.ret d, _, b') => d = d1 ∧ b' = b1
      | (.nxt, _, b') => D.non = d1 ∧ b' = b1
      | _ => False) : callI T con pr W (n + 1) g ds b = some (d1, b1) := by
  rw [callI_eq] at h ⊢
  exact callN_eq e hp ds hl b b1 d1 h
mutual
theorem we_mono : ∀ (c : CE) (env : Env) (b : BS) (K K' : D → BS → Prop), (∀ d b, K d b → K' d b) → we cl c env b K → we cl c env b K'
  | .var i, env, b, K, K', f, ⟨d, h1, h2⟩ => ⟨d, h1, f _ _ h2⟩
  | .glb i, env, b, K, K', f, h => f _ _ h
  | .cst d, env, b, K, K', f, h => f _ _ h
  | .bin op a c, env, b, K, K', f, h => we_mono a env b _ _ (fun x b1 h => we_mono c env b1 _ _ (fun y b2 ⟨z, h1, h2⟩ => ⟨z, h1, f _ _ h2⟩) h) h
  | .neg a, env, b, K, K', f, h => we_mono a env b _ _ (fun x b1 ⟨z, h1, h2⟩ => ⟨z, h1, f _ _ h2⟩) h
  | .not a, env, b, K, K', f, h => we_mono a env b _ _ (fun x b1 ⟨z, h1, h2⟩ => ⟨z, h1, f _ _ h2⟩) h
  | .bop op es, env, b, K, K', f, h => web_mono op es env b K K' f h
  | .cmp op a c, env, b, K, K', f, h => we_mono a env b _ _ (fun x b1 h => we_mono c env b1 _ _ (fun y b2 ⟨z, h1, h2⟩ => ⟨z, h1, f _ _ h2⟩) h) h
  | .chn o1 o2 a m c, env, b, K, K', f, h => we_mono a env b _ _ (fun x b1 h => we_mono m env b1 _ _ (fun y b2 ⟨k, h1, h2, h3⟩ => ⟨k, h1, fun z => we_mono c env b2 _ _ (fun z b3 ⟨k2, h4, h5⟩ => ⟨k2, h4, f _ _ h5⟩) (h2 z), fun z => f _ _ (h3 z)⟩) h) h
  | .ife c a d, env, b, K, K', f, h => we_mono c env b _ _ (fun x b1 ⟨k, h1, h2, h3⟩ => ⟨k, h1, fun z => we_mono a env b1 K K' f (h2 z), fun z => we_mono d env b1 K K' f (h3 z)⟩) h
  | .tup es, env, b, K, K', f, h => wes_mono es env b _ _ (fun ds b1 ⟨h1, h2⟩ => ⟨h1, f _ _ h2⟩) h
  | .lst es, env, b, K, K', f, h => wes_mono es env b _ _ (fun ds b1 ⟨h1, h2⟩ => ⟨h1, f _ _ h2⟩) h
  | .dct ks vs, env, b, K, K', f, h => wes_mono vs env b _ _ (fun ds b1 ⟨h1, h2⟩ => ⟨h1, f _ _ h2⟩) h
  | .idx a i, env, b, K, K', f, h => we_mono a env b _ _ (fun x b1 h => we_mono i env b1 _ _ (fun y b2 ⟨z, h1, h2⟩ => ⟨z, h1, f _ _ h2⟩) h) h
  | .slc a lo hi, env, b, K, K', f, h => we_mono a env b _ _ (fun x b1 h => weo_mono lo env b1 _ _ (fun y b2 h => weo_mono hi env b2 _ _ (fun u b3 ⟨z, h1, h2⟩ => ⟨z, h1, f _ _ h2⟩) h) h) h
  | .rev a, env, b, K, K', f, h => we_mono a env b _ _ (fun x b1 ⟨z, h1, h2⟩ => ⟨z, h1, f _ _ h2⟩) h
  | .call g es, env, b, K, K', f, h => wes_mono es env b _ _ (fun ds b1 ⟨d, b2, h1, h2⟩ => ⟨d, b2, h1, f _ _ h2⟩) h
  | .bi bb es, env, b, K, K', f, h => wes_mono es env b _ _ (fun ds b1 ⟨z, h1, h2⟩ => ⟨z, h1, f _ _ h2⟩) h
  | .mth m a es, env, b, K, K', f, h => we_mono a env b _ _ (fun x b1 h => wes_mono es env b1 _ _ (fun ds b2 ⟨z, h1, h2⟩ => ⟨z, h1, f _ _ h2⟩) h) h
  | .lc g it ifs elt own, env, b, K, K', f, h => by
    rcases h with ⟨d, b', h1, h2⟩ | h
    · exact .inl ⟨d, b', h1, f _ _ h2⟩
    · exact .inr (wei_mono it env b _ _ (fun ds b1 ⟨I, h0, hs, hd⟩ => ⟨I, h0, hs, fun r b h => ⟨(hd r b h).1, f _ _ (hd r b h).2⟩⟩) h)
theorem web_mono (op : BoolOp) : ∀ (c : CEs) (env : Env) (b : BS) (K K' : D → BS → Prop), (∀ d b, K d b → K' d b) → web cl op c env b K → web cl op c env b K'
  | .nil, env, b, K, K', f, h => h.elim
  | .cons e .nil, env, b, K, K', f, h => we_mono e env b K K' f h
  | .cons e (.cons g fs), env, b, K, K', f, h => we_mono e env b _ _ (fun x b1 ⟨k, h1, h2, h3⟩ => ⟨k, h1, fun z => web_mono op (.cons g fs) env b1 K K' f (h2 z), fun z => f _ _ (h3 z)⟩) h
theorem weo_mono : ∀ (c : CO) (env : Env) (b : BS) (K K' : Option Int → BS → Prop), (∀ d b, K d b → K' d b) → weo cl c env b K → weo cl c env b K'
  | .no, env, b, K, K', f, h => f _ _ h
  | .so e, env, b, K, K', f, h => we_mono e env b _ _ (fun x b1 ⟨i, h1, h2⟩ => ⟨i, h1, f _ _ h2⟩) h
theorem wes_mono : ∀ (c : CEs) (env : Env) (b : BS) (K K' : List D → BS → Prop), (∀ d b, K d b → K' d b) → wes cl c env b K → wes cl c env b K'
  | .nil, env, b, K, K', f, h => f _ _ h
  | .cons e es, env, b, K, K', f, h => we_mono e env b _ _ (fun x b1 h => wes_mono es env b1 _ _ (fun r b2 h => f _ _ h) h) h
theorem wei_mono : ∀ (c : CI) (env : Env) (b : BS) (K K' : List D → BS → Prop), (∀ d b, K d b → K' d b) → wei cl c env b K → wei cl c env b K'
  | .it e, env, b, K, K', f, h => we_mono e env b _ _ (fun x b1 ⟨z, h1, h2⟩ => ⟨z, h1, f _ _ h2⟩) h
  | .rng es, env, b, K, K', f, h => wes_mono es env b _ _ (fun ds b1 ⟨z, h1, h2⟩ => ⟨z, h1, f _ _ h2⟩) h
  | .zip a c, env, b, K, K', f, h => we_mono a env b _ _ (fun x b1 h => we_mono c env b1 _ _ (fun y b2 ⟨z, h1, h2⟩ => ⟨z, h1, f _ _ h2⟩) h) h
  | .enum a, env, b, K, K', f, h => we_mono a env b _ _ (fun x b1 ⟨z, h1, h2⟩ => ⟨z, h1, f _ _ h2⟩) h
end
end En

/-! Loops and comprehensions over a known list, as a fold and as a map. -/
namespace En
open PySem PySem.Spec PyProof.Rows L2
theorem rngD_ok (j : Int) (h0 : -4611686018427387904 ≤ j) (h1 : j < 4611686018427387904) : rngI [.int j] = some ((List.range j.toNat).map fun i : Nat => .int (i : Int)) := by
  rw [rngI_eq]; exact if_pos ⟨h0, h1⟩
theorem rngD_ok2 (i j : Int) (h0 : -4611686018427387904 ≤ i) (h1 : i < 4611686018427387904) (h2 : -4611686018427387904 ≤ j) (h3 : j < 4611686018427387904) : rngI [.int i, .int j] = some ((List.range (j - i).toNat).map fun k : Nat => .int (i + (k : Int))) := by
  rw [rngI_eq]; exact if_pos ⟨h0, h1, h2, h3⟩
theorem br_t {k : Bool} {A B : Prop} (h : k = true) (a : A) : (k = true → A) ∧ (k = false → B) := ⟨fun _ => a, fun z => (by rw [h] at z; cases z)⟩
theorem br_f {k : Bool} {A B : Prop} (h : k = false) (a : B) : (k = true → A) ∧ (k = false → B) := ⟨fun z => (by rw [h] at z; cases z), fun _ => a⟩
variable {cl : Calls} {W : Nat}
theorem for_fold {α σ : Type} {g : CG} {body : List CS} {Q : Fl × Env × BS → Prop} {env : Env} {b : BS} (L : List α) (f : α → D) (step : σ → α → σ) (s0 : σ) (rel : σ → Env → BS → Prop) (h0 : rel s0 env b)
    (hs : ∀ s a env b, a ∈ L → rel s env b → ∃ e1, bindG g (f a) env = some e1 ∧ wss cl W body e1 b fun r => match r with
        | (.nxt, e, b') => rel (step s a) e b'
        | (.cnt, e, b') => rel (step s a) e b'
        | (.brk, e, b') => Q (.nxt, e, b')
        | (.ret d, e, b') => Q (.ret d, e, b'))
    (hd : ∀ env b, rel (L.foldl step s0) env b → Q (.nxt, env, b)) :
    FORP g (fun e b Q => wss cl W body e b Q) (L.map f) env b Q := by
  refine ⟨fun i e bb => rel ((L.take i).foldl step s0) e bb, by simpa using h0, fun i d env b hg hi => ?_, fun env b hi => hd env b ?_⟩
  · simp only [List.getElem?_map, Option.map_eq_some_iff] at hg
    obtain ⟨a, ha, rfl⟩ := hg
    have ht : L.take (i + 1) = L.take i ++ [a] := by rw [List.take_succ, ha]; rfl
    have := hs _ a env b (List.mem_of_getElem? ha) hi
    have e : (L.take (i + 1)).foldl step s0 = step ((L.take i).foldl step s0) a := by rw [ht, List.foldl_append]; rfl
    simp only [e]
    exact this
  · simpa using hi
theorem lc_map {α : Type} {g : CG} {elt : CE} {en : Env} {b : BS} {K : D → BS → Prop} (L : List α) (f F : α → D) (hs : ∀ a, a ∈ L → ∃ e1, bindG g (f a) en = some e1 ∧ we cl elt e1 b fun x b2 => x = F a ∧ b2 = b) (hz : L.length ≤ sizeLine) (hk : K (.lst (L.map F)) b) :
    LCP g (fun e b K => wt cl .nil e b K) (fun e b K => we cl elt e b K) en (L.map f) b K := by
  refine ⟨fun i acc b' => b' = b ∧ acc = (L.take i).map F, ⟨rfl, rfl⟩, fun i d acc b' hd hi => ?_, fun r b' hi => ?_⟩
  · obtain ⟨rfl, rfl⟩ := hi
    simp only [List.getElem?_map, Option.map_eq_some_iff] at hd
    obtain ⟨a, ha, rfl⟩ := hd
    obtain ⟨e1, h1, h2⟩ := hs a (List.mem_of_getElem? ha)
    have ht : L.take (i + 1) = L.take i ++ [a] := by rw [List.take_succ, ha]; rfl
    refine ⟨e1, h1, fun _ => ?_, fun z => by cases z⟩
    exact we_mono elt e1 _ _ _ (fun x b2 ⟨h3, h4⟩ => ⟨h4, by rw [ht, List.map_append, h3]; rfl⟩) h2
  · obtain ⟨rfl, rfl⟩ := hi
    exact ⟨by simpa using hz, by simpa using hk⟩
/-- a comprehension whose element may draw: each element meets P -/
theorem lc_draw {α β : Type} {g : CG} {elt : CE} {en : Env} {b : BS} {K : D → BS → Prop} (L : List α) (f : α → D) (F : β → D) (P : β → Prop) (J : BS → Prop) (hj : J b) (hs : ∀ a b, a ∈ L → J b → ∃ e1, bindG g (f a) en = some e1 ∧ we cl elt e1 b fun x b2 => (∃ y, P y ∧ x = F y) ∧ J b2) (hz : L.length ≤ sizeLine) (hk : ∀ l : List β, l.length = L.length → (∀ y ∈ l, P y) → ∀ b, J b → K (.lst (l.map F)) b) :
    LCP g (fun e b K => wt cl .nil e b K) (fun e b K => we cl elt e b K) en (L.map f) b K := by
  refine ⟨fun i acc b' => J b' ∧ (i ≤ L.length → ∃ l : List β, l.length = i ∧ (∀ y ∈ l, P y) ∧ acc = l.map F), ⟨hj, fun _ => ⟨[], rfl, by simp, rfl⟩⟩, fun i d acc b' hd hi => ?_, fun r b' hi => ?_⟩
  · obtain ⟨hJ, hi⟩ := hi
    simp only [List.getElem?_map, Option.map_eq_some_iff] at hd
    obtain ⟨a, ha, rfl⟩ := hd
    have hlt : i < L.length := by rw [List.getElem?_eq_some_iff] at ha; exact ha.1
    obtain ⟨l, hl, hp, rfl⟩ := hi (by omega)
    obtain ⟨e1, h1, h2⟩ := hs a b' (List.mem_of_getElem? ha) hJ
    refine ⟨e1, h1, fun _ => ?_, fun z => by cases z⟩
    refine we_mono elt e1 _ _ _ (fun x b2 ⟨⟨y, hy, h3⟩, h4⟩ => ⟨h4, fun _ => ⟨l ++ [y], by simp [hl], ?_, by simp [h3]⟩⟩) h2
    intro z hz
    rcases List.mem_append.mp hz with hz | hz
    · exact hp z hz
    · rw [List.mem_singleton.mp hz]; exact hy
  · obtain ⟨hJ, hi⟩ := hi
    obtain ⟨l, hl, hp, rfl⟩ := hi (by simp)
    exact ⟨by simp at hl ⊢; omega, hk l (by simpa using hl) hp b' hJ⟩
def BOk (b : BS) : Prop := ∃ cells cur seed, b = some ⟨cells, [cur, seed]⟩
theorem draw_ok {b : BS} (h : BOk b) (many : Int) (h0 : 0 < many) (h1 : many < 1073741824) : ∃ v b1, boxDraw [.box, .int many] b = some (.int v, b1) ∧ 0 ≤ v ∧ v < many ∧ BOk b1 := by
  obtain ⟨cells, cur, seed, rfl⟩ := h
  have hl : ∃ v c s x, boxLoad cells cur seed = (v, ⟨c, [x, s]⟩) := by
    cases cells with
    | nil => exact ⟨_, _, _, _, rfl⟩
    | cons c cs =>
      simp only [boxLoad]
      split
      · exact ⟨_, _, _, _, rfl⟩
      · exact ⟨_, _, _, _, rfl⟩
  obtain ⟨v, c, s, x, hl⟩ := hl
  simp only [boxDraw, h0, h1, and_self, if_true, hl]
  split
  · exact ⟨_, _, rfl, Int.emod_nonneg _ (by omega), Int.emod_lt_of_pos _ h0, _, _, _, rfl⟩
  · exact ⟨_, _, rfl, Int.emod_nonneg _ (by omega), Int.emod_lt_of_pos _ h0, _, _, _, rfl⟩
theorem atI_ok (ds : List D) (a : Nat) (h : a < ds.length) : atI ds (a : Int) = some (ds[a]'h) := by
  have e : ixN ds.length (a : Int) = some a := by
    unfold ixN
    simp
    omega
  simp [atI, e, h]
/-! ### the law's sameness -/
def bSame (g : Nat) : List CS := [.ife (.bop .Or (.cons (.bop .And (.cons (.bi (.isi "tuple") (.cons (.var 0) .nil)) (.cons (.bi (.isi "tuple") (.cons (.var 1) .nil)) .nil))) (.cons (.bop .And (.cons (.bi (.isi "list") (.cons (.var 0) .nil)) (.cons (.bi (.isi "list") (.cons (.var 1) .nil)) .nil))) .nil))) [.ret (.bop .And (.cons (.cmp .Eq (.bi .len (.cons (.var 0) .nil)) (.bi .len (.cons (.var 1) .nil))) (.cons (.bi .all (.cons (.lc (.nm 2) (.rng (.cons (.bi .len (.cons (.var 0) .nil)) .nil)) .nil (.call g (.cons (.idx (.var 0) (.var 2)) (.cons (.idx (.var 1) (.var 2)) .nil))) [2]) .nil)) .nil)))] [], .ife (.bop .Or (.cons (.bi (.isi "bool") (.cons (.var 0) .nil)) (.cons (.bi (.isi "bool") (.cons (.var 1) .nil)) .nil))) [.ret (.bop .And (.cons (.bi (.isi "bool") (.cons (.var 0) .nil)) (.cons (.bi (.isi "bool") (.cons (.var 1) .nil)) (.cons (.cmp .Eq (.var 0) (.var 1)) .nil))))] [], .ife (.bop .Or (.cons (.bop .And (.cons (.bi (.isi "int") (.cons (.var 0) .nil)) (.cons (.bi (.isi "int") (.cons (.var 1) .nil)) .nil))) (.cons (.bop .And (.cons (.bi (.isi "str") (.cons (.var 0) .nil)) (.cons (.bi (.isi "str") (.cons (.var 1) .nil)) .nil))) .nil))) [.ret (.cmp .Eq (.var 0) (.var 1))] [], .ret (.bop .And (.cons (.cmp .Is (.var 0) (.cst (.non))) (.cons (.cmp .Is (.var 1) (.cst (.non))) .nil)))]
def Smp : Nat → D → Prop
  | 0, _ => False
  | n + 1, d => match d with
    | .non => True
    | .bl _ => True
    | .int _ => True
    | .str _ => True
    | .tup ds => ds.length ≤ sizeLine ∧ ∀ x ∈ ds, Smp n x
    | .lst ds => ds.length ≤ sizeLine ∧ ∀ x ∈ ds, Smp n x
    | _ => False
theorem same_seq_a {T : List FDef} {con : Nat → D} {pr : Nat → Option (List D → M D)} {W g : Nat} (e : T[g]? = some ⟨2, 3, bSame g⟩) (hp : pr g = none) (n : Nat) (ds : List D) (b : BS) (h : Smp (n + 1) (.tup ds)) (ih : ∀ (x : D) (b : BS), Smp n x → callI T con pr W n g [x, x] b = some (.bl true, b)) :
    wss ⟨callI T con pr W n, con⟩ W (bSame g) (env0 ⟨2, 3, bSame g⟩ [.tup ds, .tup ds]) b fun r => match r with
      | (.ret d, _, b') => d = .bl true ∧ b' = b
      | (.nxt, _, b') => D.non = .bl true ∧ b' = b
      | _ => False := by
  repeat' (first | exact ⟨rfl, rfl⟩ | refine ⟨_, rfl, ?_⟩ | refine ⟨_, rngD_ok _ (by omega) (by omega), ?_⟩ | refine ⟨_, rngD_ok2 _ _ (by omega) (by omega) (by omega) (by omega), ?_⟩ | refine ⟨Nat.le_of_ble_eq_true rfl, ?_⟩ | refine ⟨⟨rfl, Nat.le_of_ble_eq_true rfl, rfl⟩, ?_⟩ | refine ⟨fun _ => ?_, fun h => Bool.noConfusion (show true = false from h)⟩ | refine ⟨fun h => Bool.noConfusion (show false = true from h), fun _ => ?_⟩ | fail)
  refine br_t (by simp [goOn, eqvD]) ?_
  refine .inr ?_
  repeat' (first | exact ⟨rfl, rfl⟩ | refine ⟨_, rfl, ?_⟩ | refine ⟨_, rngD_ok _ (by omega) (by omega), ?_⟩ | refine ⟨_, rngD_ok2 _ _ (by omega) (by omega) (by omega) (by omega), ?_⟩ | refine ⟨Nat.le_of_ble_eq_true rfl, ?_⟩ | refine ⟨⟨rfl, Nat.le_of_ble_eq_true rfl, rfl⟩, ?_⟩ | refine ⟨fun _ => ?_, fun h => Bool.noConfusion (show true = false from h)⟩ | refine ⟨fun h => Bool.noConfusion (show false = true from h), fun _ => ?_⟩ | fail)
  obtain ⟨hz, hm⟩ := h
  have hz' : ds.length ≤ 576460752303423487 := Nat.le_trans hz (Nat.le_of_ble_eq_true rfl)
  refine ⟨_, rngD_ok _ (show _ ≤ (ds.length : Int) by omega) (show (ds.length : Int) < _ by omega), ?_⟩
  refine lc_map (cl := ⟨callI T con pr W n, con⟩) (List.range (Int.toNat ds.length)) (fun i : Nat => .int (i : Int)) (fun _ => .bl true) (fun a ha => ?_) (by simpa using hz) ?_
  · have ha : a < ds.length := by simpa using ha
    refine ⟨_, rfl, ?_⟩
    have hat : idxD (.tup ds) (.int (a : Int)) = some (ds[a]'ha) := by
      simp only [idxD]; exact atI_ok ds a ha
    refine ⟨_, rfl, _, rfl, _, hat, _, rfl, _, rfl, _, hat, ?_⟩
    exact ⟨_, _, ih _ _ (hm _ (List.getElem_mem ha)), rfl, rfl⟩
  · refine ⟨.bl true, ?_, rfl, rfl⟩
    have : blsD ((List.range (Int.toNat ds.length)).map fun _ => D.bl true) = some ((List.range (Int.toNat ds.length)).map fun _ => true) := by
      generalize List.range (Int.toNat ds.length) = L
      induction L with
      | nil => rfl
      | cons x xs ih => simp_all [blsD]
    show (blsD _).map _ = _
    rw [this]; simp
theorem same_seq_b {T : List FDef} {con : Nat → D} {pr : Nat → Option (List D → M D)} {W g : Nat} (e : T[g]? = some ⟨2, 3, bSame g⟩) (hp : pr g = none) (n : Nat) (ds : List D) (b : BS) (h : Smp (n + 1) (.lst ds)) (ih : ∀ (x : D) (b : BS), Smp n x → callI T con pr W n g [x, x] b = some (.bl true, b)) :
    wss ⟨callI T con pr W n, con⟩ W (bSame g) (env0 ⟨2, 3, bSame g⟩ [.lst ds, .lst ds]) b fun r => match r with
      | (.ret d, _, b') => d = .bl true ∧ b' = b
      | (.nxt, _, b') => D.non = .bl true ∧ b' = b
      | _ => False := by
  repeat' (first | exact ⟨rfl, rfl⟩ | refine ⟨_, rfl, ?_⟩ | refine ⟨_, rngD_ok _ (by omega) (by omega), ?_⟩ | refine ⟨_, rngD_ok2 _ _ (by omega) (by omega) (by omega) (by omega), ?_⟩ | refine ⟨Nat.le_of_ble_eq_true rfl, ?_⟩ | refine ⟨⟨rfl, Nat.le_of_ble_eq_true rfl, rfl⟩, ?_⟩ | refine ⟨fun _ => ?_, fun h => Bool.noConfusion (show true = false from h)⟩ | refine ⟨fun h => Bool.noConfusion (show false = true from h), fun _ => ?_⟩ | fail)
  refine br_t (by simp [goOn, eqvD]) ?_
  refine .inr ?_
  repeat' (first | exact ⟨rfl, rfl⟩ | refine ⟨_, rfl, ?_⟩ | refine ⟨_, rngD_ok _ (by omega) (by omega), ?_⟩ | refine ⟨_, rngD_ok2 _ _ (by omega) (by omega) (by omega) (by omega), ?_⟩ | refine ⟨Nat.le_of_ble_eq_true rfl, ?_⟩ | refine ⟨⟨rfl, Nat.le_of_ble_eq_true rfl, rfl⟩, ?_⟩ | refine ⟨fun _ => ?_, fun h => Bool.noConfusion (show true = false from h)⟩ | refine ⟨fun h => Bool.noConfusion (show false = true from h), fun _ => ?_⟩ | fail)
  obtain ⟨hz, hm⟩ := h
  have hz' : ds.length ≤ 576460752303423487 := Nat.le_trans hz (Nat.le_of_ble_eq_true rfl)
  refine ⟨_, rngD_ok _ (show _ ≤ (ds.length : Int) by omega) (show (ds.length : Int) < _ by omega), ?_⟩
  refine lc_map (cl := ⟨callI T con pr W n, con⟩) (List.range (Int.toNat ds.length)) (fun i : Nat => .int (i : Int)) (fun _ => .bl true) (fun a ha => ?_) (by simpa using hz) ?_
  · have ha : a < ds.length := by simpa using ha
    refine ⟨_, rfl, ?_⟩
    have hat : idxD (.lst ds) (.int (a : Int)) = some (ds[a]'ha) := by
      simp only [idxD]; exact atI_ok ds a ha
    refine ⟨_, rfl, _, rfl, _, hat, _, rfl, _, rfl, _, hat, ?_⟩
    exact ⟨_, _, ih _ _ (hm _ (List.getElem_mem ha)), rfl, rfl⟩
  · refine ⟨.bl true, ?_, rfl, rfl⟩
    have : blsD ((List.range (Int.toNat ds.length)).map fun _ => D.bl true) = some ((List.range (Int.toNat ds.length)).map fun _ => true) := by
      generalize List.range (Int.toNat ds.length) = L
      induction L with
      | nil => rfl
      | cons x xs ih => simp_all [blsD]
    show (blsD _).map _ = _
    rw [this]; simp
theorem same_ok {T : List FDef} {con : Nat → D} {pr : Nat → Option (List D → M D)} {W g : Nat} (e : T[g]? = some ⟨2, 3, bSame g⟩) (hp : pr g = none) : ∀ (n : Nat) (x : D) (b : BS), Smp n x → callI T con pr W n g [x, x] b = some (.bl true, b)
  | 0, x, b, h => h.elim
  | n + 1, x, b, h => by
    refine call_eq e hp _ rfl _ _ _ ?_
    cases x with
    | tup ds => exact same_seq_a e hp n ds b h (same_ok e hp n)
    | lst ds => exact same_seq_b e hp n ds b h (same_ok e hp n)
    | non => repeat' (first | exact ⟨rfl, rfl⟩ | refine ⟨_, rfl, ?_⟩ | refine ⟨_, rngD_ok _ (by omega) (by omega), ?_⟩ | refine ⟨_, rngD_ok2 _ _ (by omega) (by omega) (by omega) (by omega), ?_⟩ | refine ⟨Nat.le_of_ble_eq_true rfl, ?_⟩ | refine ⟨⟨rfl, Nat.le_of_ble_eq_true rfl, rfl⟩, ?_⟩ | refine ⟨fun _ => ?_, fun h => Bool.noConfusion (show true = false from h)⟩ | refine ⟨fun h => Bool.noConfusion (show false = true from h), fun _ => ?_⟩ | fail)
    | bl k =>
      repeat' (first | exact ⟨rfl, rfl⟩ | refine ⟨_, rfl, ?_⟩ | refine ⟨_, rngD_ok _ (by omega) (by omega), ?_⟩ | refine ⟨_, rngD_ok2 _ _ (by omega) (by omega) (by omega) (by omega), ?_⟩ | refine ⟨Nat.le_of_ble_eq_true rfl, ?_⟩ | refine ⟨⟨rfl, Nat.le_of_ble_eq_true rfl, rfl⟩, ?_⟩ | refine ⟨fun _ => ?_, fun h => Bool.noConfusion (show true = false from h)⟩ | refine ⟨fun h => Bool.noConfusion (show false = true from h), fun _ => ?_⟩ | fail)
      simp [eqvD]
    | int k =>
      repeat' (first | exact ⟨rfl, rfl⟩ | refine ⟨_, rfl, ?_⟩ | refine ⟨_, rngD_ok _ (by omega) (by omega), ?_⟩ | refine ⟨_, rngD_ok2 _ _ (by omega) (by omega) (by omega) (by omega), ?_⟩ | refine ⟨Nat.le_of_ble_eq_true rfl, ?_⟩ | refine ⟨⟨rfl, Nat.le_of_ble_eq_true rfl, rfl⟩, ?_⟩ | refine ⟨fun _ => ?_, fun h => Bool.noConfusion (show true = false from h)⟩ | refine ⟨fun h => Bool.noConfusion (show false = true from h), fun _ => ?_⟩ | fail)
      simp [eqvD]
    | str k =>
      repeat' (first | exact ⟨rfl, rfl⟩ | refine ⟨_, rfl, ?_⟩ | refine ⟨_, rngD_ok _ (by omega) (by omega), ?_⟩ | refine ⟨_, rngD_ok2 _ _ (by omega) (by omega) (by omega) (by omega), ?_⟩ | refine ⟨Nat.le_of_ble_eq_true rfl, ?_⟩ | refine ⟨⟨rfl, Nat.le_of_ble_eq_true rfl, rfl⟩, ?_⟩ | refine ⟨fun _ => ?_, fun h => Bool.noConfusion (show true = false from h)⟩ | refine ⟨fun h => Bool.noConfusion (show false = true from h), fun _ => ?_⟩ | fail)
      simp [eqvD]
    | _ => exact h.elim
/-! ### equal data without bools -/
def Pl : Nat → D → Prop
  | 0, _ => False
  | n + 1, d => match d with
    | .int _ => True
    | .str _ => True
    | .tup ds => ∀ x ∈ ds, Pl n x
    | .lst ds => ∀ x ∈ ds, Pl n x
    | _ => False
theorem Pl_seq {n : Nat} (ih : ∀ x y : D, Pl n x → Pl n y → (eqvD x y = true ↔ x = y)) : ∀ ds es : List D, (∀ x ∈ ds, Pl n x) → (∀ x ∈ es, Pl n x) → (eqvDs ds es = true ↔ ds = es)
  | [], [], _, _ => by simp [eqvDs]
  | [], e :: es, _, _ => by simp [eqvDs]
  | d :: ds, [], _, _ => by simp [eqvDs]
  | d :: ds, e :: es, h1, h2 => by
    have := Pl_seq ih ds es (fun x h => h1 x (List.mem_cons_of_mem _ h)) fun x h => h2 x (List.mem_cons_of_mem _ h)
    have h := ih d e (h1 d (List.mem_cons_self ..)) (h2 e (List.mem_cons_self ..))
    simp [eqvDs, h, this]
theorem Pl_eq : ∀ (n : Nat) (x y : D), Pl n x → Pl n y → (eqvD x y = true ↔ x = y)
  | 0, _, _, h, _ => h.elim
  | n + 1, x, y, h1, h2 => by
    cases x <;> cases y <;> first | exact h1.elim | exact h2.elim | skip
    case tup.tup ds es => simpa [eqvD] using Pl_seq (Pl_eq n) ds es h1 h2
    case lst.lst ds es => simpa [eqvD] using Pl_seq (Pl_eq n) ds es h1 h2
    all_goals simp [eqvD]
theorem Pl_dles {m n : Nat} (ih : ∀ x : D, Pl n x → dLe x m = true) : ∀ ds : List D, (∀ x ∈ ds, Pl n x) → dLes ds m = true
  | [], _ => rfl
  | d :: ds, h => by simp [dLes, ih d (h d (List.mem_cons_self ..)), Pl_dles ih ds fun x hx => h x (List.mem_cons_of_mem _ hx)]
theorem Pl_dle : ∀ (n m : Nat) (x : D), n ≤ m → Pl n x → dLe x m = true
  | 0, _, _, _, h => h.elim
  | n + 1, 0, _, hm, _ => absurd hm (by omega)
  | n + 1, m + 1, x, hm, h => by
    cases x <;> first | exact h.elim | rfl | skip
    case tup ds => simpa [dLe] using Pl_dles (fun x hx => Pl_dle n m x (by omega) hx) ds h
    case lst ds => simpa [dLe] using Pl_dles (fun x hx => Pl_dle n m x (by omega) hx) ds h
theorem Pl_eqD {n : Nat} {x y : D} (hn : n ≤ 64) (h1 : Pl n x) (h2 : Pl n y) : eqD x y = some (eqvD x y) := by
  simp [eqD, Pl_dle n 64 x hn h1, Pl_dle n 64 y hn h2]
theorem Pl_cmp {n : Nat} {x y : D} (hn : n ≤ 64) (h1 : Pl n x) (h2 : Pl n y) : cmpD .Eq x y = some (eqvD x y) := Pl_eqD hn h1 h2
theorem Pl_ncmp {n : Nat} {x y : D} (hn : n ≤ 64) (h1 : Pl n x) (h2 : Pl n y) : cmpD .NotEq x y = some (!eqvD x y) := by
  simp [cmpD, Pl_eqD hn h1 h2]
theorem Pl_self {n : Nat} {x : D} (h : Pl n x) : eqvD x x = true := (Pl_eq n x x h h).mpr rfl
theorem eq_cmp (x y : D) (k : Bool) (n : Nat) (hn : n ≤ 64) (h1 : Pl n x) (h2 : Pl n y) (hk : k = true ↔ x = y) : cmpD .Eq x y = some k := by
  rw [Pl_cmp hn h1 h2, Bool.eq_iff_iff.mpr ((Pl_eq n x y h1 h2).trans hk.symm)]
theorem ne_cmp (x y : D) (k : Bool) (n : Nat) (hn : n ≤ 64) (h1 : Pl n x) (h2 : Pl n y) (hk : k = true ↔ x = y) : cmpD .NotEq x y = some (!k) := by
  rw [Pl_ncmp hn h1 h2, Bool.eq_iff_iff.mpr ((Pl_eq n x y h1 h2).trans hk.symm)]
theorem mul_lit (i j : Int) (h : CMul i j) : binD .Mult (.int i) (.int j) = some (.int (i * j)) := if_pos (.inl h)
theorem div_lit (i j : Int) (h : CDivN i j) : binD .FloorDiv (.int i) (.int j) = some (.int (i.fdiv j)) := if_pos (.inl h)
/-! ### lists of ints -/
theorem idx_ints (f : List Int) (k : Int) (h0 : 0 ≤ k) (h1 : k < f.length) : idxD (.lst (f.map .int)) (.int k) = some (.int (f.getD k.toNat 0)) := by
  obtain ⟨i, rfl⟩ := Int.eq_ofNat_of_zero_le h0
  have hi : i < f.length := by omega
  have := atI_ok (f.map .int) i (by simpa using hi)
  simp only [idxD, this]
  simp [hi]
theorem idx_intst (f : List Int) (k : Int) (h0 : 0 ≤ k) (h1 : k < f.length) : idxD (.tup (f.map .int)) (.int k) = some (.int (f.getD k.toNat 0)) := by
  obtain ⟨i, rfl⟩ := Int.eq_ofNat_of_zero_le h0
  have hi : i < f.length := by omega
  have := atI_ok (f.map .int) i (by simpa using hi)
  simp only [idxD, this]
  simp [hi]
theorem put_ints (f : List Int) (k z : Int) (h0 : 0 ≤ k) (h1 : k < f.length) : putIx (.lst (f.map .int)) (.int k) (.int z) = some (.lst ((f.set k.toNat z).map .int)) := by
  obtain ⟨i, rfl⟩ := Int.eq_ofNat_of_zero_le h0
  have hi : i < f.length := by omega
  have e : ixN f.length (i : Int) = some i := by
    unfold ixN
    simp
    omega
  simp [putIx, e, List.map_set]
theorem bls_map {α : Type} (L : List α) (p : α → Bool) : blsD (L.map fun a => .bl (p a)) = some (L.map p) := by
  induction L with
  | nil => rfl
  | cons x xs ih => simp [blsD, ih]
theorem all_map {α : Type} (L : List α) (p : α → Bool) : biD .all [.lst (L.map fun a => .bl (p a))] = some (.bl (L.all p)) := by
  simp only [biD, bls_map]; simp [List.all_map, Function.comp_def]
theorem any_map {α : Type} (L : List α) (p : α → Bool) : biD .any [.lst (L.map fun a => .bl (p a))] = some (.bl (L.any p)) := by
  simp only [biD, bls_map]; simp [List.any_map, Function.comp_def]
theorem eq_int (i j : Int) : cmpD .Eq (.int i) (.int j) = some (decide (i = j)) := by
  rw [eq_cmp (.int i) (.int j) (decide (i = j)) 1 (by decide) trivial trivial (by simp)]
theorem eqv_k (x y : D) (k : Bool) (n : Nat) (h1 : Pl n x) (h2 : Pl n y) (hk : k = true ↔ x = y) : eqvD x y = k := by
  rw [Bool.eq_iff_iff, Pl_eq n x y h1 h2]; exact hk.symm
/-- a loop over a known list, by what holds behind each beginning -/
theorem for_pre {α : Type} {g : CG} {body : List CS} {Q : Fl × Env × BS → Prop} {env : Env} {b : BS} (L : List α) (f : α → D) (rel : List α → Env → BS → Prop) (h0 : rel [] env b)
    (hs : ∀ pre a rest env b, L = pre ++ a :: rest → rel pre env b → ∃ e1, bindG g (f a) env = some e1 ∧ wss cl W body e1 b fun r => match r with
        | (.nxt, e, b') => rel (pre ++ [a]) e b'
        | (.cnt, e, b') => rel (pre ++ [a]) e b'
        | (.brk, e, b') => Q (.nxt, e, b')
        | (.ret d, e, b') => Q (.ret d, e, b'))
    (hd : ∀ env b, rel L env b → Q (.nxt, env, b)) :
    FORP g (fun e b Q => wss cl W body e b Q) (L.map f) env b Q := by
  refine ⟨fun i e bb => rel (L.take i) e bb, h0, fun i d env b hg hi => ?_, fun env b hi => hd env b (by simpa using hi)⟩
  simp only [List.getElem?_map, Option.map_eq_some_iff] at hg
  obtain ⟨a, ha, rfl⟩ := hg
  have hlt : i < L.length := (List.getElem?_eq_some_iff.mp ha).1
  have ht : L.take (i + 1) = L.take i ++ [a] := by rw [List.take_succ, ha]; rfl
  have := hs (L.take i) a (L.drop (i + 1)) env b (by
    have h2 : L.drop i = a :: L.drop (i + 1) := by
      rw [List.drop_eq_getElem_cons hlt]
      congr 1
      exact (List.getElem?_eq_some_iff.mp ha).2
    rw [← h2, List.take_append_drop]) hi
  simp only [ht]
  exact this
theorem mul_wide (i j : Int) (h : CMulW i j) : binD .Mult (.int i) (.int j) = some (.int (i * j)) := if_pos (.inr h)
theorem div_wide (i j : Int) (h : CDivW i j) : binD .FloorDiv (.int i) (.int j) = some (.int (i / j)) := by
  rw [← Int.fdiv_eq_ediv_of_nonneg i (by have := h.1; omega)]; exact if_pos (.inr h)
end En

/-! More on lists, slices, sums and repeats of known lists; cuts. -/
namespace En
open PySem PySem.Spec PyProof.Rows L2
theorem le_size {n : Nat} (h : n ≤ 100000) : n ≤ sizeLine := Nat.le_trans h (Nat.le_of_ble_eq_true rfl)
theorem lt_size {n : Nat} (h : n ≤ 100000) : n < sizeLine := Nat.lt_of_le_of_lt h (Nat.le_of_ble_eq_true rfl)
theorem addT (a b : List D) (h : a.length + b.length ≤ 100000) : binD .Add (.tup a) (.tup b) = some (.tup (a ++ b)) := if_pos (le_size h)
theorem addL (a b : List D) (h : a.length + b.length ≤ 100000) : binD .Add (.lst a) (.lst b) = some (.lst (a ++ b)) := if_pos (le_size h)
theorem mulT (a : List D) (k : Int) (h0 : 0 ≤ k) (h1 : k < 100000) (h : a.length * k.toNat ≤ 100000) : binD .Mult (.tup a) (.int k) = some (.tup (List.replicate k.toNat a).flatten) := if_pos ⟨by omega, by omega, le_size h⟩
theorem mulL (a : List D) (k : Int) (h0 : 0 ≤ k) (h1 : k < 100000) (h : a.length * k.toNat ≤ 100000) : binD .Mult (.lst a) (.int k) = some (.lst (List.replicate k.toNat a).flatten) := if_pos ⟨by omega, by omega, le_size h⟩
theorem flat_one (x : D) (n : Nat) : (List.replicate n [x]).flatten = List.replicate n x := by
  induction n with
  | zero => rfl
  | succ n ih => rw [List.replicate_succ, List.flatten_cons, ih]; rfl
theorem mulT1 (x : D) (k : Int) (h0 : 0 ≤ k) (h1 : k ≤ 10000) : binD .Mult (.tup [x]) (.int k) = some (.tup (List.replicate k.toNat x)) := by
  rw [mulT [x] k h0 (by omega) (by simp; omega), flat_one]
theorem mulL1 (x : D) (k : Int) (h0 : 0 ≤ k) (h1 : k ≤ 10000) : binD .Mult (.lst [x]) (.int k) = some (.lst (List.replicate k.toNat x)) := by
  rw [mulL [x] k h0 (by omega) (by simp; omega), flat_one]
theorem sIx_pos (n d : Nat) (k : Int) (h0 : 0 ≤ k) : HT.sIx n d (some k) = min k.toNat n := by
  show (if k < 0 then (k + (n : Int)).toNat else min k.toNat n) = _
  rw [if_neg (by omega)]
theorem drop_min {α : Type} (xs : List α) (k : Nat) : xs.drop (min k xs.length) = xs.drop k := by
  rcases Nat.le_total k xs.length with h | h
  · rw [Nat.min_eq_left h]
  · rw [Nat.min_eq_right h, List.drop_length, List.drop_eq_nil_of_le h]
theorem cut_from {α : Type} (xs : List α) (k : Int) (h0 : 0 ≤ k) : cutD xs (some k) none = xs.drop k.toNat := by
  unfold cutD
  rw [sIx_pos _ _ _ h0, HT.sIx_none, drop_min]
  refine List.take_of_length_le ?_
  rw [List.length_drop]; omega
theorem cut_to {α : Type} (xs : List α) (k : Int) (h0 : 0 ≤ k) : cutD xs none (some k) = xs.take k.toNat := by
  unfold cutD
  rw [sIx_pos _ _ _ h0, HT.sIx_none, List.drop_zero, Nat.sub_zero]
  rcases Nat.le_total k.toNat xs.length with h | h
  · rw [Nat.min_eq_left h]
  · rw [Nat.min_eq_right h, List.take_length, List.take_of_length_le h]
theorem cut_ft {α : Type} (xs : List α) (i j : Int) (h0 : 0 ≤ i) (h1 : i ≤ j) : cutD xs (some i) (some j) = (xs.drop i.toNat).take (j - i).toNat := by
  unfold cutD
  rw [sIx_pos _ _ _ h0, sIx_pos _ _ _ (by omega), drop_min]
  rcases Nat.le_total j.toNat xs.length with h | h
  · congr 1; omega
  · rw [List.take_of_length_le (by rw [List.length_drop]; omega), List.take_of_length_le (by rw [List.length_drop]; omega)]
theorem web_cut {cl : Calls} {op : BoolOp} {es : CEs} {e : En.Env} {b : BS} {K : D → BS → Prop} (d : D) (h : web cl op es e b fun x b' => x = d ∧ b' = b) (hk : K d b) : web cl op es e b K :=
  web_mono op es e b _ _ (fun x b' ⟨h1, h2⟩ => by rw [h1, h2]; exact hk) h
theorem we_cut {cl : Calls} {c : CE} {e : En.Env} {b : BS} {K : D → BS → Prop} (d : D) (h : we cl c e b fun x b' => x = d ∧ b' = b) (hk : K d b) : we cl c e b K :=
  we_mono c e b _ _ (fun x b' ⟨h1, h2⟩ => by rw [h1, h2]; exact hk) h
theorem env_eq {cl : Calls} {W : Nat} {ss : List CS} {e e' : En.Env} {b : BS} {Q : Fl × En.Env × BS → Prop} (h : e = e') (hh : wss cl W ss e' b Q) : wss cl W ss e b Q := h ▸ hh
theorem ne_bl (k : Bool) : cmpD .NotEq (.bl k) (.bl k) = some (!true) := by cases k <;> rfl
theorem Smp_ints (n : Nat) (f : List Int) (h : f.length ≤ 100000) : Smp (n + 2) (.tup (f.map .int)) := by
  refine ⟨by simpa using le_size h, fun x hx => ?_⟩
  simp only [List.mem_map] at hx
  obtain ⟨i, _, rfl⟩ := hx
  trivial
end En

/-! Comprehensions with a condition; places of mapped lists. -/
namespace En
open PySem PySem.Spec PyProof.Rows L2
variable {cl : Calls} {W : Nat}
theorem wt_mono : ∀ (c : CEs) (env : En.Env) (b : BS) (K K' : Bool → BS → Prop), (∀ d b, K d b → K' d b) → wt cl c env b K → wt cl c env b K'
  | .nil, env, b, K, K', f, h => f _ _ h
  | .cons e .nil, env, b, K, K', f, h => we_mono e env b _ _ (fun x b1 ⟨k, h1, h2⟩ => ⟨k, h1, f _ _ h2⟩) h
  | .cons _ (.cons _ _), env, b, K, K', f, h => h.elim
theorem lc_filter {α : Type} {g : CG} {ifs : CEs} {elt : CE} {en : Env} {b : BS} {K : D → BS → Prop} (L : List α) (f F : α → D) (p : α → Bool)
    (hs : ∀ a, a ∈ L → ∃ e1, bindG g (f a) en = some e1 ∧ wt cl ifs e1 b fun k b1 => k = p a ∧ b1 = b ∧ (p a = true → we cl elt e1 b fun x b2 => x = F a ∧ b2 = b)) (hz : L.length ≤ sizeLine) (hk : K (.lst ((L.filter p).map F)) b) :
    LCP g (fun e b K => wt cl ifs e b K) (fun e b K => we cl elt e b K) en (L.map f) b K := by
  refine ⟨fun i acc b' => b' = b ∧ acc = ((L.take i).filter p).map F, ⟨rfl, rfl⟩, fun i d acc b' hd hi => ?_, fun r b' hi => ?_⟩
  · obtain ⟨rfl, rfl⟩ := hi
    simp only [List.getElem?_map, Option.map_eq_some_iff] at hd
    obtain ⟨a, ha, rfl⟩ := hd
    obtain ⟨e1, h1, h2⟩ := hs a (List.mem_of_getElem? ha)
    have ht : L.take (i + 1) = L.take i ++ [a] := by rw [List.take_succ, ha]; rfl
    refine ⟨e1, h1, wt_mono ifs e1 _ _ _ (fun k b1 ⟨h3, h4, h5⟩ => ?_) h2⟩
    subst h4
    rw [h3]
    refine ⟨fun hp => we_mono elt e1 _ _ _ (fun x b2 ⟨h6, h7⟩ => ⟨h7, by rw [ht, List.filter_append, List.map_append, h6]; simp [hp]⟩) (h5 hp), fun hp => ⟨rfl, by rw [ht, List.filter_append]; simp [hp]⟩⟩
  · obtain ⟨rfl, rfl⟩ := hi
    refine ⟨?_, by simpa using hk⟩
    rw [List.length_map]
    refine Nat.le_trans (List.length_filter_le _ _) ?_
    simpa using hz
theorem idx_map {α : Type} (L : List α) (f : α → D) (k : Nat) (a : α) (h : L[k]? = some a) : idxD (.tup (L.map f)) (.int (k : Int)) = some (f a) := by
  obtain ⟨h1, h2⟩ := List.getElem?_eq_some_iff.mp h
  simp only [idxD, atI_ok (L.map f) k (by simpa using h1)]
  simp [h2]
theorem idx_mapl {α : Type} (L : List α) (f : α → D) (k : Nat) (a : α) (h : L[k]? = some a) : idxD (.lst (L.map f)) (.int (k : Int)) = some (f a) := by
  obtain ⟨h1, h2⟩ := List.getElem?_eq_some_iff.mp h
  simp only [idxD, atI_ok (L.map f) k (by simpa using h1)]
  simp [h2]
theorem any_eq {n : Nat} {x : D} {ds : List D} (hx : Pl n x) (hd : ∀ d ∈ ds, Pl n d) : (ds.any fun d => eqvD d x) = true ↔ x ∈ ds := by
  rw [List.any_eq_true]
  constructor
  · rintro ⟨y, hy, e⟩
    rw [← (Pl_eq n y x (hd y hy) hx).mp e]; exact hy
  · intro h
    exact ⟨x, h, Pl_self hx⟩
theorem in_l {n : Nat} (x : D) (ds : List D) (k : Bool) (hn : n ≤ 60) (hx : Pl n x) (hd : ∀ d ∈ ds, Pl n d) (hk : k = true ↔ x ∈ ds) : cmpD .In x (.lst ds) = some k := by
  show (if dLe x 60 && dLes ds 60 then _ else _) = _
  rw [if_pos (by rw [Pl_dle n 60 x hn hx, Pl_dles (fun y hy => Pl_dle n 60 y hn hy) ds hd]; rfl), Bool.eq_iff_iff.mpr ((any_eq hx hd).trans hk.symm)]
theorem nin_l {n : Nat} (x : D) (ds : List D) (k : Bool) (hn : n ≤ 60) (hx : Pl n x) (hd : ∀ d ∈ ds, Pl n d) (hk : k = true ↔ x ∈ ds) : cmpD .NotIn x (.lst ds) = some (!k) := by
  have : inD x (.lst ds) = some k := in_l x ds k hn hx hd hk
  show (inD x (.lst ds)).map _ = _
  rw [this]; rfl
theorem ints_Pl (ns : List Int) : ∀ d ∈ ns.map D.int, Pl 1 d := by
  intro d hd
  simp only [List.mem_map] at hd
  obtain ⟨i, _, rfl⟩ := hd
  trivial
theorem int_in (k : Int) (ns : List Int) : cmpD .In (.int k) (.lst (ns.map .int)) = some (decide (k ∈ ns)) :=
  in_l (n := 1) _ _ _ (by decide) trivial (ints_Pl ns) (by simp)
theorem int_nin (k : Int) (ns : List Int) : cmpD .NotIn (.int k) (.lst (ns.map .int)) = some (!decide (k ∈ ns)) :=
  nin_l (n := 1) _ _ _ (by decide) trivial (ints_Pl ns) (by simp)
theorem non_nin (ns : List Int) : cmpD .NotIn .non (.lst (ns.map .int)) = some true := by
  have : inD .non (.lst (ns.map .int)) = some false := by
    show (if dLe .non 60 && dLes (ns.map D.int) 60 then _ else _) = _
    rw [if_pos (by rw [Pl_dles (n := 1) (fun y hy => Pl_dle 1 60 y (by decide) hy) _ (ints_Pl ns)]; rfl)]
    congr 1
    rw [List.any_eq_false]
    intro d hd
    simp only [List.mem_map] at hd
    obtain ⟨i, _, rfl⟩ := hd
    simp [eqvD]
  show (inD .non _).map _ = _
  rw [this]; rfl
theorem intsD_map (ns : List Int) : intsD (ns.map .int) = some ns := by
  induction ns with
  | nil => rfl
  | cons n ns ih => simp [intsD, ih]
theorem lenset_l (ns : List Int) (h : ns.length ≤ 1000) : mthD .lenset (.lst (ns.map .int)) [] = some (.int (distI ns : Nat)) := by
  simp only [mthD, intsD_map, if_pos h]
theorem lenset_t (ns : List Int) (h : ns.length ≤ 1000) : mthD .lenset (.tup (ns.map .int)) [] = some (.int (distI ns : Nat)) := by
  simp only [mthD, intsD_map, if_pos h]
theorem dist_le : ∀ ns : List Int, distI ns ≤ ns.length
  | [] => Nat.le_refl _
  | n :: ns => by
    unfold distI
    have := dist_le ns
    split <;> simp <;> omega
theorem dist_nodup (ns : List Int) : distI ns = ns.length ↔ ns.Nodup := by
  induction ns with
  | nil => simp [distI]
  | cons n ns ih =>
    unfold distI
    have := dist_le ns
    rw [List.nodup_cons, ← ih]
    split
    · rename_i h; simp [h]; omega
    · rename_i h; simp [h]
theorem lc_self {g : CG} {elt : CE} {en : Env} {b : BS} {K : D → BS → Prop} (L : List D) (F : D → D) (hs : ∀ a, a ∈ L → ∃ e1, bindG g a en = some e1 ∧ we cl elt e1 b fun x b2 => x = F a ∧ b2 = b) (hz : L.length ≤ sizeLine) (hk : K (.lst (L.map F)) b) :
    LCP g (fun e b K => wt cl .nil e b K) (fun e b K => we cl elt e b K) en L b K := by
  have := lc_map (cl := cl) (K := K) L (fun d => d) F hs hz hk
  rwa [List.map_id'] at this
theorem for_self {g : CG} {body : List CS} {Q : Fl × Env × BS → Prop} {env : Env} {b : BS} (L : List D) (rel : List D → Env → BS → Prop) (h0 : rel [] env b)
    (hs : ∀ pre a rest env b, L = pre ++ a :: rest → rel pre env b → ∃ e1, bindG g a env = some e1 ∧ wss cl W body e1 b fun r => match r with
        | (.nxt, e, b') => rel (pre ++ [a]) e b'
        | (.cnt, e, b') => rel (pre ++ [a]) e b'
        | (.brk, e, b') => Q (.nxt, e, b')
        | (.ret d, e, b') => Q (.ret d, e, b'))
    (hd : ∀ env b, rel L env b → Q (.nxt, env, b)) :
    FORP g (fun e b Q => wss cl W body e b Q) L env b Q := by
  have := for_pre (cl := cl) (W := W) (Q := Q) L (fun d => d) rel h0 hs hd
  rwa [List.map_id'] at this
end En

namespace Lw
open PySem PySem.Spec PyProof.Rows L2 En
def top (i : Nat) : Stmt := PySem.Challenge.pw_loopsclosed_k46_whole_safe_moves_and_tra.main.body.getD i (.Pass ⟨0, 0, 0, 0⟩)
def N_is_number : List Str := ["value", "least", "most"]
def b_is_number : List CS := [.ret (.bop .And (.cons (.bi (.isi "int") (.cons (.var 0) .nil)) (.cons (.not (.bi (.isi "bool") (.cons (.var 0) .nil))) (.cons (.chn .LtE .LtE (.var 1) (.var 0) (.var 2)) .nil))))]
def N_is_ascending : List Str := ["rows", "k"]
def b_is_ascending : List CS := [.ret (.bi .all (.cons (.lc (.nm 1) (.rng (.cons (.bin .Sub (.bi .len (.cons (.var 0) .nil)) (.cst (.int 1))) .nil)) .nil (.cmp .Lt (.idx (.var 0) (.var 1)) (.idx (.var 0) (.bin .Add (.var 1) (.cst (.int 1))))) [1]) .nil))]
def N_blocks_in : List Str := ["traffic", "state", "road", "at"]
def b_blocks_in : List CS := [.ret (.lc (.tp [(.nm 2), (.nm 3)]) (.zip (.var 0) (.var 1)) (.cons (.cmp .Lt (.var 3) (.bi .len (.cons (.var 2) .nil))) .nil) (.idx (.var 2) (.var 3)) [2, 3])]
def N_is_state : List Str := ["traffic", "value", "road", "at", "blocks"]
def b_is_state : List CS := [.ife (.bop .Or (.cons (.not (.bi (.isi "tuple") (.cons (.var 1) .nil))) (.cons (.cmp .NotEq (.bi .len (.cons (.var 1) .nil)) (.bi .len (.cons (.var 0) .nil))) .nil))) [.ret (.cst (.bl false))] [], .ife (.not (.bi .all (.cons (.lc (.tp [(.nm 2), (.nm 3)]) (.zip (.var 0) (.var 1)) .nil (.call 0 (.cons (.var 3) (.cons (.cst (.int 0)) (.cons (.bi .len (.cons (.var 2) .nil)) .nil)))) [2, 3]) .nil))) [.ret (.cst (.bl false))] [], .set 4 (.call 2 (.cons (.var 0) (.cons (.var 1) .nil))), .ret (.cmp .Eq (.mth .lenset (.var 4) .nil) (.bi .len (.cons (.var 4) .nil)))]
def N_is_through : List Str := ["traffic", "state", "road", "at"]
def b_is_through : List CS := [.ret (.bi .all (.cons (.lc (.tp [(.nm 2), (.nm 3)]) (.zip (.var 0) (.var 1)) .nil (.cmp .Eq (.var 3) (.bi .len (.cons (.var 2) .nil))) [2, 3]) .nil))]
def N_next_block : List Str := ["traffic", "state", "train", "at"]
def b_next_block : List CS := [.set 3 (.bin .Add (.idx (.var 1) (.var 2)) (.cst (.int 1))), .ret (.ife (.cmp .Lt (.var 3) (.bi .len (.cons (.idx (.var 0) (.var 2)) .nil))) (.idx (.idx (.var 0) (.var 2)) (.var 3)) (.cst (.non)))]
def N_can_move : List Str := ["traffic", "state", "blocks", "found", "train", "at"]
def b_can_move : List CS := [.par [(.nm 2), (.nm 3)] (.cons (.call 2 (.cons (.var 0) (.cons (.var 1) .nil))) (.cons (.lst .nil) .nil)), .forr (.tp [(.nm 4), (.nm 5)]) (.enum (.var 1)) [.ife (.bop .And (.cons (.cmp .Lt (.var 5) (.bi .len (.cons (.idx (.var 0) (.var 4)) .nil))) (.cons (.cmp .NotIn (.call 5 (.cons (.var 0) (.cons (.var 1) (.cons (.var 4) .nil)))) (.var 2)) .nil))) [.app 3 (.var 4)] []], .ret (.bi .tuple (.cons (.var 3) .nil))]
def N_state_behind : List Str := ["traffic", "state", "train"]
def b_state_behind : List CS := [.ret (.bin .Add (.bin .Add (.slc (.var 1) .no (.so (.var 2))) (.tup (.cons (.bin .Add (.idx (.var 1) (.var 2)) (.cst (.int 1))) .nil))) (.slc (.var 1) (.so (.bin .Add (.var 2) (.cst (.int 1)))) .no))]
def N_states_from : List Str := ["traffic", "state", "found", "waiting", "here", "train", "there"]
def b_states_from : List CS := [.par [(.nm 2), (.nm 3)] (.cons (.mth .dsp1 (.var 1) (.cons (.cst (.bl true)) .nil)) (.cons (.lst (.cons (.var 1) .nil)) .nil)), .whl (.var 3) [.setPop 4 3 .no, .forr (.nm 5) (.it (.call 6 (.cons (.var 0) (.cons (.var 4) .nil)))) [.set 6 (.call 7 (.cons (.var 0) (.cons (.var 4) (.cons (.var 5) .nil)))), .ife (.cmp .NotIn (.var 6) (.var 2)) [.stIx 2 (.var 6) (.cst (.bl true)), .app 3 (.var 6)] []]], .ret (.bi .tuple (.cons (.bi .sorted (.cons (.var 2) .nil)) .nil))]
def N_safe_states : List Str := ["traffic", "state", "rows", "safe", "here", "moves", "train", "there"]
def b_safe_states : List CS := [.set 2 (.call 8 (.cons (.var 0) (.cons (.var 1) .nil))), .set 3 (.dct [] .nil), .forr (.nm 4) (.it (.mth .skey (.var 2) .nil)) [.set 5 (.lc (.nm 6) (.it (.call 6 (.cons (.var 0) (.cons (.var 4) .nil)))) .nil (.call 7 (.cons (.var 0) (.cons (.var 4) (.cons (.var 6) .nil)))) [6]), .ife (.bop .Or (.cons (.call 4 (.cons (.var 0) (.cons (.var 4) .nil))) (.cons (.bi .any (.cons (.lc (.nm 7) (.it (.var 5)) .nil (.cmp .In (.var 7) (.var 3)) [7]) .nil)) .nil))) [.stIx 3 (.var 4) (.cst (.bl true))] []], .ret (.var 3)]
def N_safe_moves : List Str := ["traffic", "state", "safe", "found", "train", "k"]
def b_safe_moves : List CS := [.par [(.nm 2), (.nm 3)] (.cons (.call 9 (.cons (.var 0) (.cons (.var 1) .nil))) (.cons (.lst .nil) .nil)), .ife (.cmp .NotIn (.var 1) (.var 2)) [.ret (.cst (.non))] [], .whl (.not (.call 4 (.cons (.var 0) (.cons (.var 1) .nil)))) [.set 4 (.idx (.lc (.nm 5) (.it (.call 6 (.cons (.var 0) (.cons (.var 1) .nil)))) (.cons (.cmp .In (.call 7 (.cons (.var 0) (.cons (.var 1) (.cons (.var 5) .nil)))) (.var 2)) .nil) (.var 5) [5]) (.cst (.int 0))), .app 3 (.var 4), .set 1 (.call 7 (.cons (.var 0) (.cons (.var 1) (.cons (.var 4) .nil))))], .ret (.bi .tuple (.cons (.var 3) .nil))]
def N_brings_through : List Str := ["traffic", "state", "value", "train"]
def b_brings_through : List CS := [.ife (.bop .Or (.cons (.not (.bi (.isi "tuple") (.cons (.var 2) .nil))) (.cons (.not (.bi .all (.cons (.lc (.nm 3) (.it (.var 2)) .nil (.call 0 (.cons (.var 3) (.cons (.cst (.int 0)) (.cons (.bin .Sub (.bi .len (.cons (.var 0) .nil)) (.cst (.int 1))) .nil)))) [3]) .nil))) .nil))) [.ret (.cst (.bl false))] [], .forr (.nm 3) (.it (.var 2)) [.ife (.cmp .NotIn (.var 3) (.call 6 (.cons (.var 0) (.cons (.var 1) .nil)))) [.ret (.cst (.bl false))] [], .set 1 (.call 7 (.cons (.var 0) (.cons (.var 1) (.cons (.var 3) .nil))))], .ret (.call 4 (.cons (.var 0) (.cons (.var 1) .nil)))]
def N_trap_of : List Str := ["traffic", "state", "rows", "here"]
def b_trap_of : List CS := [.set 2 (.call 8 (.cons (.var 0) (.cons (.var 1) .nil))), .ret (.ife (.bi .any (.cons (.lc (.nm 3) (.it (.var 2)) .nil (.call 4 (.cons (.var 0) (.cons (.var 3) .nil))) [3]) .nil)) (.cst (.non)) (.var 2))]
def N_is_trap : List Str := ["traffic", "state", "value", "here", "train"]
def b_is_trap : List CS := [.ife (.bop .Or (.cons (.not (.bi (.isi "tuple") (.cons (.var 2) .nil))) (.cons (.not (.bi .all (.cons (.lc (.nm 3) (.it (.var 2)) .nil (.call 3 (.cons (.var 0) (.cons (.var 3) .nil))) [3]) .nil))) .nil))) [.ret (.cst (.bl false))] [], .ife (.bop .Or (.cons (.not (.call 1 (.cons (.var 2) .nil))) (.cons (.cmp .NotIn (.var 1) (.var 2)) (.cons (.bi .any (.cons (.lc (.nm 3) (.it (.var 2)) .nil (.call 4 (.cons (.var 0) (.cons (.var 3) .nil))) [3]) .nil)) .nil)))) [.ret (.cst (.bl false))] [], .forr (.nm 3) (.it (.var 2)) [.ife (.not (.bi .all (.cons (.lc (.nm 4) (.it (.call 6 (.cons (.var 0) (.cons (.var 3) .nil)))) .nil (.cmp .In (.call 7 (.cons (.var 0) (.cons (.var 3) (.cons (.var 4) .nil)))) (.var 2)) [4]) .nil))) [.ret (.cst (.bl false))] []], .ret (.cst (.bl true))]
def N_may_move : List Str := ["traffic", "state", "safe", "train"]
def b_may_move : List CS := [.set 2 (.call 9 (.cons (.var 0) (.cons (.var 1) .nil))), .ret (.bi .tuple (.cons (.lc (.nm 3) (.it (.call 6 (.cons (.var 0) (.cons (.var 1) .nil)))) (.cons (.cmp .In (.call 7 (.cons (.var 0) (.cons (.var 1) (.cons (.var 3) .nil)))) (.var 2)) .nil) (.var 3) [3]) .nil))]
def N_first_mistake : List Str := ["traffic", "state", "moves", "safe", "k", "train"]
def b_first_mistake : List CS := [.set 3 (.call 9 (.cons (.var 0) (.cons (.var 1) .nil))), .forr (.tp [(.nm 4), (.nm 5)]) (.enum (.var 2)) [.set 1 (.call 7 (.cons (.var 0) (.cons (.var 1) (.cons (.var 5) .nil)))), .ife (.cmp .NotIn (.var 1) (.var 3)) [.ret (.var 4)] []], .ret (.cst (.non))]
def N__law_flat : List Str := ["rows", "found", "row"]
def b__law_flat : List CS := [.set 1 (.lst .nil), .forr (.nm 2) (.it (.var 0)) [.ext 1 (.var 2)], .ret (.var 1)]
def N__law_box : List Str := ["script"]
def b__law_box : List CS := []
def N__law_load : List Str := ["box", "cells", "cell", "size", "first", "second"]
def b__law_load : List CS := []
def N__law_draw : List Str := ["box", "many", "digit"]
def b__law_draw : List CS := []
def N__law_same : List Str := ["a", "b", "k"]
def b__law_same : List CS := [.ife (.bop .Or (.cons (.bop .And (.cons (.bi (.isi "tuple") (.cons (.var 0) .nil)) (.cons (.bi (.isi "tuple") (.cons (.var 1) .nil)) .nil))) (.cons (.bop .And (.cons (.bi (.isi "list") (.cons (.var 0) .nil)) (.cons (.bi (.isi "list") (.cons (.var 1) .nil)) .nil))) .nil))) [.ret (.bop .And (.cons (.cmp .Eq (.bi .len (.cons (.var 0) .nil)) (.bi .len (.cons (.var 1) .nil))) (.cons (.bi .all (.cons (.lc (.nm 2) (.rng (.cons (.bi .len (.cons (.var 0) .nil)) .nil)) .nil (.call 20 (.cons (.idx (.var 0) (.var 2)) (.cons (.idx (.var 1) (.var 2)) .nil))) [2]) .nil)) .nil)))] [], .ife (.bop .Or (.cons (.bi (.isi "bool") (.cons (.var 0) .nil)) (.cons (.bi (.isi "bool") (.cons (.var 1) .nil)) .nil))) [.ret (.bop .And (.cons (.bi (.isi "bool") (.cons (.var 0) .nil)) (.cons (.bi (.isi "bool") (.cons (.var 1) .nil)) (.cons (.cmp .Eq (.var 0) (.var 1)) .nil))))] [], .ife (.bop .Or (.cons (.bop .And (.cons (.bi (.isi "int") (.cons (.var 0) .nil)) (.cons (.bi (.isi "int") (.cons (.var 1) .nil)) .nil))) (.cons (.bop .And (.cons (.bi (.isi "str") (.cons (.var 0) .nil)) (.cons (.bi (.isi "str") (.cons (.var 1) .nil)) .nil))) .nil))) [.ret (.cmp .Eq (.var 0) (.var 1))] [], .ret (.bop .And (.cons (.cmp .Is (.var 0) (.cst (.non))) (.cons (.cmp .Is (.var 1) (.cst (.non))) .nil)))]
def N__law_traffic : List Str := ["box", "heads", "roads", "blocks", "train", "head", "road", "step", "block"]
def b__law_traffic : List CS := [.par [(.nm 1), (.nm 2)] (.cons (.mth .lrange (.cst (.int 10)) .nil) (.cons (.lst .nil) .nil)), .set 3 (.bin .Add (.cst (.int 4)) (.call 19 (.cons (.var 0) (.cons (.cst (.int 4)) .nil)))), .forr (.nm 4) (.rng (.cons (.bin .Add (.cst (.int 1)) (.call 19 (.cons (.var 0) (.cons (.cst (.int 3)) .nil)))) .nil)) [.setPop 5 1 (.so (.call 19 (.cons (.var 0) (.cons (.bin .Sub (.var 3) (.var 4)) .nil)))), .set 6 (.lst (.cons (.var 5) .nil)), .forr (.nm 7) (.rng (.cons (.call 19 (.cons (.var 0) (.cons (.cst (.int 4)) .nil))) .nil)) [.set 8 (.call 19 (.cons (.var 0) (.cons (.var 3) .nil))), .ife (.cmp .NotEq (.var 8) (.idx (.var 6) (.neg (.cst (.int 1))))) [.app 6 (.var 8)] []], .app 2 (.bi .tuple (.cons (.var 6) .nil))], .ret (.bi .tuple (.cons (.var 2) .nil))]
def N__law_stands : List Str := ["traffic", "state", "k"]
def b__law_stands : List CS := [.ret (.lc (.nm 2) (.rng (.cons (.bi .len (.cons (.var 1) .nil)) .nil)) (.cons (.cmp .Lt (.idx (.var 1) (.var 2)) (.bi .len (.cons (.idx (.var 0) (.var 2)) .nil))) .nil) (.idx (.idx (.var 0) (.var 2)) (.idx (.var 1) (.var 2))) [2])]
def N__law_moves : List Str := ["traffic", "state", "found", "k", "ahead"]
def b__law_moves : List CS := [.set 2 (.lst .nil), .forr (.nm 3) (.rng (.cons (.bi .len (.cons (.var 1) .nil)) .nil)) [.ife (.cmp .Lt (.idx (.var 1) (.var 3)) (.bi .len (.cons (.idx (.var 0) (.var 3)) .nil))) [.set 4 (.slc (.idx (.var 0) (.var 3)) (.so (.bin .Add (.idx (.var 1) (.var 3)) (.cst (.int 1)))) (.so (.bin .Add (.idx (.var 1) (.var 3)) (.cst (.int 2))))), .ife (.bop .Or (.cons (.cmp .Eq (.bi .len (.cons (.var 4) .nil)) (.cst (.int 0))) (.cons (.cmp .NotIn (.idx (.var 4) (.cst (.int 0))) (.call 22 (.cons (.var 0) (.cons (.var 1) .nil)))) .nil))) [.app 2 (.var 3)] []] []], .ret (.var 2)]
def N__law_next : List Str := ["state", "k"]
def b__law_next : List CS := [.ret (.bin .Add (.bin .Add (.slc (.var 0) .no (.so (.var 1))) (.tup (.cons (.bin .Add (.idx (.var 0) (.var 1)) (.cst (.int 1))) .nil))) (.slc (.var 0) (.so (.bin .Add (.var 1) (.cst (.int 1)))) .no))]
def N__law_from : List Str := ["traffic", "state", "found", "at", "k"]
def b__law_from : List CS := [.par [(.nm 2), (.nm 3)] (.cons (.lst (.cons (.var 1) .nil)) (.cons (.cst (.int 0)) .nil)), .whl (.cmp .Lt (.var 3) (.bi .len (.cons (.var 2) .nil))) [.forr (.nm 4) (.it (.call 23 (.cons (.var 0) (.cons (.idx (.var 2) (.var 3)) .nil)))) [.ife (.cmp .NotIn (.call 24 (.cons (.idx (.var 2) (.var 3)) (.cons (.var 4) .nil))) (.var 2)) [.app 2 (.call 24 (.cons (.idx (.var 2) (.var 3)) (.cons (.var 4) .nil)))] []], .set 3 (.bin .Add (.var 3) (.cst (.int 1)))], .ret (.var 2)]
def N__law_done : List Str := ["traffic", "state", "k"]
def b__law_done : List CS := [.ret (.bi .all (.cons (.lc (.nm 2) (.rng (.cons (.bi .len (.cons (.var 1) .nil)) .nil)) .nil (.cmp .Eq (.idx (.var 1) (.var 2)) (.bi .len (.cons (.idx (.var 0) (.var 2)) .nil))) [2]) .nil))]
def N__law_bent : List Str := ["box", "value", "at", "pick"]
def b__law_bent : List CS := [.ife (.bop .And (.cons (.bi (.isi "tuple") (.cons (.var 1) .nil)) (.cons (.cmp .Gt (.bi .len (.cons (.var 1) .nil)) (.cst (.int 0))) (.cons (.cmp .Gt (.call 19 (.cons (.var 0) (.cons (.cst (.int 5)) .nil))) (.cst (.int 0))) .nil)))) [.set 2 (.call 19 (.cons (.var 0) (.cons (.bi .len (.cons (.var 1) .nil)) .nil))), .ret (.bin .Add (.bin .Add (.slc (.var 1) .no (.so (.var 2))) (.tup (.cons (.call 27 (.cons (.var 0) (.cons (.idx (.var 1) (.var 2)) .nil))) .nil))) (.slc (.var 1) (.so (.bin .Add (.var 2) (.cst (.int 1)))) .no))] [], .set 3 (.call 19 (.cons (.var 0) (.cons (.cst (.int 8)) .nil))), .ife (.bi (.isi "tuple") (.cons (.var 1) .nil)) [.ret (.idx (.lst (.cons (.bin .Add (.var 1) (.slc (.var 1) .no (.so (.cst (.int 1))))) (.cons (.slc (.var 1) (.so (.cst (.int 1))) .no) (.cons (.rev (.var 1)) (.cons (.bin .Add (.var 1) (.tup (.cons (.cst (.int 0)) .nil))) (.cons (.tup (.cons (.var 1) .nil)) (.cons (.slc (.var 1) .no (.so (.neg (.cst (.int 1))))) (.cons (.cst (.non)) (.cons (.bin .Add (.var 1) (.tup (.cons (.tup (.cons (.cst (.int 0)) (.cons (.cst (.int 1)) .nil))) .nil))) .nil))))))))) (.var 3))] [], .ife (.bop .And (.cons (.bi (.isi "int") (.cons (.var 1) .nil)) (.cons (.not (.bi (.isi "bool") (.cons (.var 1) .nil))) .nil))) [.ret (.idx (.lst (.cons (.bin .Add (.var 1) (.cst (.int 1))) (.cons (.bin .Sub (.var 1) (.cst (.int 1))) (.cons (.cst (.int 0)) (.cons (.cmp .Eq (.var 1) (.cst (.int 1))) (.cons (.cst (.non)) (.cons (.bi .str (.cons (.var 1) .nil)) (.cons (.tup (.cons (.var 1) .nil)) (.cons (.bin .Add (.var 1) (.cst (.int 2))) .nil))))))))) (.var 3))] [], .ife (.bi (.isi "str") (.cons (.var 1) .nil)) [.ret (.idx (.lst (.cons (.bin .Add (.var 1) (.cst (.str "s"))) (.cons (.slc (.var 1) (.so (.cst (.int 1))) .no) (.cons (.cst (.str "left")) (.cons (.cst (.str "straight")) (.cons (.cst (.int 0)) (.cons (.cst (.non)) (.cons (.cst (.str "")) (.cons (.cst (.str "ring")) .nil))))))))) (.var 3))] [], .ret (.idx (.lst (.cons (.cst (.int 0)) (.cons (.cst (.int 1)) (.cons (.cst (.non)) (.cons (.cst (.bl true)) (.cons (.cst (.str "a")) (.cons (.tup .nil) (.cons (.tup (.cons (.cst (.int 0)) .nil)) (.cons (.cst (.str "point")) .nil))))))))) (.var 3))]
def N__law_brings : List Str := ["traffic", "state", "value", "k"]
def b__law_brings : List CS := [.ife (.bop .Or (.cons (.not (.bi (.isi "tuple") (.cons (.var 2) .nil))) (.cons (.not (.bi .all (.cons (.lc (.nm 3) (.it (.var 2)) .nil (.bop .And (.cons (.bi (.isi "int") (.cons (.var 3) .nil)) (.cons (.not (.bi (.isi "bool") (.cons (.var 3) .nil))) .nil))) [3]) .nil))) .nil))) [.ret (.cst (.bl false))] [], .forr (.nm 3) (.it (.var 2)) [.ife (.cmp .NotIn (.var 3) (.call 23 (.cons (.var 0) (.cons (.var 1) .nil)))) [.ret (.cst (.bl false))] [], .set 1 (.call 24 (.cons (.var 1) (.cons (.var 3) .nil)))], .ret (.call 26 (.cons (.var 0) (.cons (.var 1) .nil)))]
def N__law_is_trap : List Str := ["traffic", "state", "value", "every", "x", "here", "k"]
def b__law_is_trap : List CS := [.ife (.bop .Or (.cons (.not (.bi (.isi "tuple") (.cons (.var 2) .nil))) (.cons (.not (.bi .all (.cons (.lc (.nm 5) (.it (.var 2)) .nil (.bop .And (.cons (.bi (.isi "tuple") (.cons (.var 5) .nil)) (.cons (.bi .all (.cons (.lc (.nm 4) (.it (.var 5)) .nil (.bop .And (.cons (.bi (.isi "int") (.cons (.var 4) .nil)) (.cons (.not (.bi (.isi "bool") (.cons (.var 4) .nil))) .nil))) [4]) .nil)) (.cons (.cmp .In (.var 5) (.var 3)) .nil)))) [5]) .nil))) .nil))) [.ret (.cst (.bl false))] [], .ife (.bop .Or (.cons (.bi .any (.cons (.lc (.nm 6) (.rng (.cons (.bin .Sub (.bi .len (.cons (.var 2) .nil)) (.cst (.int 1))) .nil)) .nil (.cmp .GtE (.idx (.var 2) (.var 6)) (.idx (.var 2) (.bin .Add (.var 6) (.cst (.int 1))))) [6]) .nil)) (.cons (.cmp .NotIn (.var 1) (.var 2)) (.cons (.bi .any (.cons (.lc (.nm 5) (.it (.var 2)) .nil (.call 26 (.cons (.var 0) (.cons (.var 5) .nil))) [5]) .nil)) .nil)))) [.ret (.cst (.bl false))] [], .ret (.bi .all (.cons (.lc (.nm 5) (.it (.var 2)) .nil (.bi .all (.cons (.lc (.nm 6) (.it (.call 23 (.cons (.var 0) (.cons (.var 5) .nil)))) .nil (.cmp .In (.call 24 (.cons (.var 5) (.cons (.var 6) .nil))) (.var 2)) [6]) .nil)) [5]) .nil))]
def N__law_every : List Str := ["traffic", "rows", "road", "at", "row"]
def b__law_every : List CS := [.set 1 (.lst (.cons (.tup .nil) .nil)), .forr (.nm 2) (.it (.var 0)) [.set 1 (.call 16 (.cons (.lc (.nm 4) (.it (.var 1)) .nil (.lc (.nm 3) (.rng (.cons (.bin .Add (.bi .len (.cons (.var 2) .nil)) (.cst (.int 1))) .nil)) .nil (.bin .Add (.var 4) (.tup (.cons (.var 3) .nil))) [3]) [4]) .nil))], .ret (.lc (.nm 4) (.it (.var 1)) (.cons (.cmp .Eq (.mth .lenset (.call 22 (.cons (.var 0) (.cons (.var 4) .nil))) .nil) (.bi .len (.cons (.call 22 (.cons (.var 0) (.cons (.var 4) .nil))) .nil))) .nil) (.var 4) [4])]
def N_law : List Str := ["script", "box", "turn", "traffic", "every", "step", "state", "rows", "safe", "here", "there", "due", "count", "fit", "k", "moves", "trap", "drawn", "mistake", "road", "paper", "values", "value", "stuck", "other"]
def b_law : List CS := [.set 1 (.call 17 (.cons (.var 0) .nil)), .forr (.nm 2) (.rng (.cons (.cst (.int 4)) .nil)) [.set 3 (.call 21 (.cons (.var 1) .nil)), .set 4 (.call 30 (.cons (.var 3) .nil)), .forr (.nm 5) (.rng (.cons (.cst (.int 4)) .nil)) [.set 6 (.ife (.cmp .Gt (.var 5) (.cst (.int 0))) (.idx (.var 4) (.call 19 (.cons (.var 1) (.cons (.bi .len (.cons (.var 4) .nil)) .nil)))) (.bin .Mult (.tup (.cons (.cst (.int 0)) .nil)) (.bi .len (.cons (.var 3) .nil)))), .set 7 (.call 25 (.cons (.var 3) (.cons (.var 6) .nil))), .set 8 (.lc (.nm 9) (.it (.var 7)) (.cons (.bi .any (.cons (.lc (.nm 10) (.it (.call 25 (.cons (.var 3) (.cons (.var 9) .nil)))) .nil (.call 26 (.cons (.var 3) (.cons (.var 10) .nil))) [10]) .nil)) .nil) (.var 9) [9]), .ife (.not (.call 20 (.cons (.call 8 (.cons (.var 3) (.cons (.var 6) .nil))) (.cons (.bi .tuple (.cons (.bi .sorted (.cons (.var 7) .nil)) .nil)) .nil)))) [.ret (.cst (.bl false))] [], .par [(.nm 11), (.nm 9)] (.cons (.lst .nil) (.cons (.var 6) .nil)), .forr (.nm 12) (.rng (.cons (.cst (.int 30)) .nil)) [.set 13 (.lc (.nm 14) (.it (.call 23 (.cons (.var 3) (.cons (.var 9) .nil)))) (.cons (.cmp .In (.call 24 (.cons (.var 9) (.cons (.var 14) .nil))) (.var 8)) .nil) (.var 14) [14]), .ife (.cmp .Gt (.bi .len (.cons (.var 13) .nil)) (.cst (.int 0))) [.app 11 (.idx (.var 13) (.cst (.int 0))), .set 9 (.call 24 (.cons (.var 9) (.cons (.idx (.var 13) (.cst (.int 0))) .nil)))] []], .par [(.nm 15), (.nm 16)] (.cons (.call 10 (.cons (.var 3) (.cons (.var 6) .nil))) (.cons (.call 12 (.cons (.var 3) (.cons (.var 6) .nil))) .nil)), .ife (.not (.call 20 (.cons (.tup (.cons (.var 15) (.cons (.var 16) .nil))) (.cons (.ife (.cmp .In (.var 6) (.var 8)) (.tup (.cons (.bi .tuple (.cons (.var 11) .nil)) (.cons (.cst (.non)) .nil))) (.tup (.cons (.cst (.non)) (.cons (.bi .tuple (.cons (.bi .sorted (.cons (.var 7) .nil)) .nil)) .nil)))) .nil)))) [.ret (.cst (.bl false))] [], .ife (.not (.call 20 (.cons (.call 14 (.cons (.var 3) (.cons (.var 6) .nil))) (.cons (.bi .tuple (.cons (.lc (.nm 14) (.it (.call 23 (.cons (.var 3) (.cons (.var 6) .nil)))) (.cons (.cmp .In (.call 24 (.cons (.var 6) (.cons (.var 14) .nil))) (.var 8)) .nil) (.var 14) [14]) .nil)) .nil)))) [.ret (.cst (.bl false))] [], .par [(.nm 9), (.nm 17), (.nm 18)] (.cons (.var 6) (.cons (.lst .nil) (.cons (.cst (.non)) .nil))), .forr (.nm 12) (.rng (.cons (.call 19 (.cons (.var 1) (.cons (.cst (.int 9)) .nil))) .nil)) [.set 13 (.call 23 (.cons (.var 3) (.cons (.var 9) .nil))), .ife (.cmp .Gt (.bi .len (.cons (.var 13) .nil)) (.cst (.int 0))) [.app 17 (.idx (.var 13) (.call 19 (.cons (.var 1) (.cons (.bi .len (.cons (.var 13) .nil)) .nil)))), .set 9 (.call 24 (.cons (.var 9) (.cons (.idx (.var 17) (.neg (.cst (.int 1)))) .nil))), .set 18 (.ife (.bop .And (.cons (.cmp .Is (.var 18) (.cst (.non))) (.cons (.cmp .NotIn (.var 9) (.var 8)) .nil))) (.bin .Sub (.bi .len (.cons (.var 17) .nil)) (.cst (.int 1))) (.var 18))] []], .ife (.bop .And (.cons (.cmp .In (.var 6) (.var 8)) (.cons (.not (.call 20 (.cons (.call 15 (.cons (.var 3) (.cons (.var 6) (.cons (.bi .tuple (.cons (.var 17) .nil)) .nil)))) (.cons (.var 18) .nil)))) .nil))) [.ret (.cst (.bl false))] [], .set 9 (.var 6), .forr (.nm 12) (.rng (.cons (.bi .sum (.cons (.lc (.nm 19) (.it (.var 3)) .nil (.bi .len (.cons (.var 19) .nil)) [19]) .nil)) .nil)) [.set 13 (.ife (.cmp .In (.var 6) (.var 8)) (.call 14 (.cons (.var 3) (.cons (.var 9) .nil))) (.tup .nil)), .ife (.cmp .Gt (.bi .len (.cons (.var 13) .nil)) (.cst (.int 0))) [.set 9 (.call 24 (.cons (.var 9) (.cons (.idx (.var 13) (.call 19 (.cons (.var 1) (.cons (.bi .len (.cons (.var 13) .nil)) .nil)))) .nil)))] []], .ife (.bop .And (.cons (.cmp .In (.var 6) (.var 8)) (.cons (.not (.call 26 (.cons (.var 3) (.cons (.var 9) .nil)))) .nil))) [.ret (.cst (.bl false))] [], .set 20 (.ife (.cmp .IsNot (.var 15) (.cst (.non))) (.var 15) (.bi .tuple (.cons (.var 17) .nil))), .set 21 (.lst (.cons (.var 20) (.cons (.slc (.var 20) (.so (.cst (.int 1))) .no) (.cons (.rev (.var 20)) (.cons (.bin .Add (.var 20) (.slc (.var 20) .no (.so (.cst (.int 1))))) (.cons (.bi .tuple (.cons (.var 17) .nil)) (.cons (.tup (.cons (.cst (.bl true)) .nil)) (.cons (.cst (.non)) (.cons (.cst (.int 0)) (.cons (.tup .nil) .nil)))))))))), .forr (.nm 22) (.it (.bin .Add (.var 21) (.lc (.nm 12) (.rng (.cons (.cst (.int 4)) .nil)) .nil (.call 27 (.cons (.var 1) (.cons (.var 20) .nil))) [12]))) [.ife (.not (.call 20 (.cons (.call 11 (.cons (.var 3) (.cons (.var 6) (.cons (.var 22) .nil)))) (.cons (.call 28 (.cons (.var 3) (.cons (.var 6) (.cons (.var 22) .nil)))) .nil)))) [.ret (.cst (.bl false))] []], .set 23 (.bi .tuple (.cons (.bi .sorted (.cons (.lc (.nm 10) (.it (.var 4)) (.cons (.not (.bi .any (.cons (.lc (.nm 24) (.it (.call 25 (.cons (.var 3) (.cons (.var 10) .nil)))) .nil (.call 26 (.cons (.var 3) (.cons (.var 24) .nil))) [24]) .nil))) .nil) (.var 10) [10]) .nil)) .nil)), .set 20 (.ife (.cmp .IsNot (.var 16) (.cst (.non))) (.var 16) (.var 23)), .forr (.nm 22) (.it (.bin .Add (.lst (.cons (.var 20) (.cons (.var 23) (.cons (.slc (.var 20) (.so (.cst (.int 1))) .no) (.cons (.rev (.var 20)) (.cons (.bin .Add (.var 20) (.slc (.var 20) .no (.so (.cst (.int 1))))) (.cons (.bi .tuple (.cons (.bi .sorted (.cons (.var 7) .nil)) .nil)) (.cons (.tup (.cons (.var 6) .nil)) (.cons (.cst (.non)) (.cons (.cst (.int 0)) (.cons (.tup .nil) .nil))))))))))) (.lc (.nm 12) (.rng (.cons (.cst (.int 4)) .nil)) .nil (.call 27 (.cons (.var 1) (.cons (.var 20) .nil))) [12]))) [.set 11 (.call 29 (.cons (.var 3) (.cons (.var 6) (.cons (.var 22) (.cons (.var 4) .nil))))), .ife (.bop .Or (.cons (.not (.call 20 (.cons (.call 13 (.cons (.var 3) (.cons (.var 6) (.cons (.var 22) .nil)))) (.cons (.var 11) .nil)))) (.cons (.bop .And (.cons (.var 11) (.cons (.cmp .In (.var 6) (.var 8)) .nil))) .nil))) [.ret (.cst (.bl false))] []], .ife (.not (.bi .all (.cons (.lc (.nm 14) (.it (.call 14 (.cons (.var 3) (.cons (.var 6) .nil)))) .nil (.cmp .In (.var 14) (.call 6 (.cons (.var 3) (.cons (.var 6) .nil)))) [14]) .nil))) [.ret (.cst (.bl false))] []]], .ret (.call 20 (.cons (.tup (.cons (.call 10 (.cons (.tup (.cons (.tup (.cons (.cst (.int 0)) (.cons (.cst (.int 1)) (.cons (.cst (.int 2)) .nil)))) (.cons (.tup (.cons (.cst (.int 2)) (.cons (.cst (.int 1)) (.cons (.cst (.int 0)) .nil)))) .nil))) (.cons (.tup (.cons (.cst (.int 0)) (.cons (.cst (.int 0)) .nil))) .nil))) (.cons (.call 10 (.cons (.tup (.cons (.tup (.cons (.cst (.int 0)) (.cons (.cst (.int 1)) .nil))) (.cons (.tup (.cons (.cst (.int 2)) (.cons (.cst (.int 1)) .nil))) .nil))) (.cons (.tup (.cons (.cst (.int 0)) (.cons (.cst (.int 0)) .nil))) .nil))) .nil))) (.cons (.tup (.cons (.cst (.non)) (.cons (.tup (.cons (.cst (.int 0)) (.cons (.cst (.int 0)) (.cons (.cst (.int 1)) (.cons (.cst (.int 1)) .nil))))) .nil))) .nil)))]
def t_is_number : DefT := ⟨"is_number", top 1, N_is_number, ["value", "least", "most"], ⟨3, 3, b_is_number⟩⟩
def t_is_ascending : DefT := ⟨"is_ascending", top 2, N_is_ascending, ["rows"], ⟨1, 2, b_is_ascending⟩⟩
def t_blocks_in : DefT := ⟨"blocks_in", top 4, N_blocks_in, ["traffic", "state"], ⟨2, 4, b_blocks_in⟩⟩
def t_is_state : DefT := ⟨"is_state", top 5, N_is_state, ["traffic", "value"], ⟨2, 5, b_is_state⟩⟩
def t_is_through : DefT := ⟨"is_through", top 6, N_is_through, ["traffic", "state"], ⟨2, 4, b_is_through⟩⟩
def t_next_block : DefT := ⟨"next_block", top 7, N_next_block, ["traffic", "state", "train"], ⟨3, 4, b_next_block⟩⟩
def t_can_move : DefT := ⟨"can_move", top 8, N_can_move, ["traffic", "state"], ⟨2, 6, b_can_move⟩⟩
def t_state_behind : DefT := ⟨"state_behind", top 9, N_state_behind, ["traffic", "state", "train"], ⟨3, 3, b_state_behind⟩⟩
def t_states_from : DefT := ⟨"states_from", top 11, N_states_from, ["traffic", "state"], ⟨2, 7, b_states_from⟩⟩
def t_safe_states : DefT := ⟨"safe_states", top 12, N_safe_states, ["traffic", "state"], ⟨2, 8, b_safe_states⟩⟩
def t_safe_moves : DefT := ⟨"safe_moves", top 13, N_safe_moves, ["traffic", "state"], ⟨2, 6, b_safe_moves⟩⟩
def t_brings_through : DefT := ⟨"brings_through", top 14, N_brings_through, ["traffic", "state", "value"], ⟨3, 4, b_brings_through⟩⟩
def t_trap_of : DefT := ⟨"trap_of", top 15, N_trap_of, ["traffic", "state"], ⟨2, 4, b_trap_of⟩⟩
def t_is_trap : DefT := ⟨"is_trap", top 16, N_is_trap, ["traffic", "state", "value"], ⟨3, 5, b_is_trap⟩⟩
def t_may_move : DefT := ⟨"may_move", top 17, N_may_move, ["traffic", "state"], ⟨2, 4, b_may_move⟩⟩
def t_first_mistake : DefT := ⟨"first_mistake", top 18, N_first_mistake, ["traffic", "state", "moves"], ⟨3, 6, b_first_mistake⟩⟩
def t__law_flat : DefT := ⟨"_law_flat", top 20, N__law_flat, ["rows"], ⟨1, 3, b__law_flat⟩⟩
def t__law_box : DefT := ⟨"_law_box", top 21, N__law_box, ["script"], ⟨1, 1, b__law_box⟩⟩
def t__law_load : DefT := ⟨"_law_load", top 22, N__law_load, ["box"], ⟨1, 6, b__law_load⟩⟩
def t__law_draw : DefT := ⟨"_law_draw", top 23, N__law_draw, ["box", "many"], ⟨2, 3, b__law_draw⟩⟩
def t__law_same : DefT := ⟨"_law_same", top 24, N__law_same, ["a", "b"], ⟨2, 3, b__law_same⟩⟩
def t__law_traffic : DefT := ⟨"_law_traffic", top 25, N__law_traffic, ["box"], ⟨1, 9, b__law_traffic⟩⟩
def t__law_stands : DefT := ⟨"_law_stands", top 26, N__law_stands, ["traffic", "state"], ⟨2, 3, b__law_stands⟩⟩
def t__law_moves : DefT := ⟨"_law_moves", top 27, N__law_moves, ["traffic", "state"], ⟨2, 5, b__law_moves⟩⟩
def t__law_next : DefT := ⟨"_law_next", top 28, N__law_next, ["state", "k"], ⟨2, 2, b__law_next⟩⟩
def t__law_from : DefT := ⟨"_law_from", top 29, N__law_from, ["traffic", "state"], ⟨2, 5, b__law_from⟩⟩
def t__law_done : DefT := ⟨"_law_done", top 30, N__law_done, ["traffic", "state"], ⟨2, 3, b__law_done⟩⟩
def t__law_bent : DefT := ⟨"_law_bent", top 31, N__law_bent, ["box", "value"], ⟨2, 4, b__law_bent⟩⟩
def t__law_brings : DefT := ⟨"_law_brings", top 32, N__law_brings, ["traffic", "state", "value"], ⟨3, 4, b__law_brings⟩⟩
def t__law_is_trap : DefT := ⟨"_law_is_trap", top 33, N__law_is_trap, ["traffic", "state", "value", "every"], ⟨4, 7, b__law_is_trap⟩⟩
def t__law_every : DefT := ⟨"_law_every", top 34, N__law_every, ["traffic"], ⟨1, 5, b__law_every⟩⟩
def t_law : DefT := ⟨"law", top 35, N_law, ["script"], ⟨1, 25, b_law⟩⟩
def T : List DefT := [t_is_number, t_is_ascending, t_blocks_in, t_is_state, t_is_through, t_next_block, t_can_move, t_state_behind, t_states_from, t_safe_states, t_safe_moves, t_brings_through, t_trap_of, t_is_trap, t_may_move, t_first_mistake, t__law_flat, t__law_box, t__law_load, t__law_draw, t__law_same, t__law_traffic, t__law_stands, t__law_moves, t__law_next, t__law_from, t__law_done, t__law_bent, t__law_brings, t__law_is_trap, t__law_every, t_law]
def C : List (Str × D) := []
theorem ck : lawCk T (C.map (·.1)) 17 18 19 = true := by decide +kernel
abbrev call (n g : Nat) (ds : List D) : M D := callI (T.map (·.fd)) (conOf C) (prOf 17 18 19) 1000000 n g ds
theorem cwp {n g : Nat} {fd : FDef} (e : (T.map (·.fd))[g]? = some fd) (hp : prOf 17 18 19 g = none) (ds : List D) (hl : ds.length = fd.np) (b : BS) (K : D → BS → Prop)
    (h : wss ⟨call n, conOf C⟩ 1000000 fd.body (env0 fd ds) b fun r => match r with
      | (.ret d, _, b') => K d b'
      | (.nxt, _, b') => K .non b'
      | _ => False) : ∃ d b', call (n + 1) g ds b = some (d, b') ∧ K d b' := call_wp e hp ds hl b K h
theorem call_box (n : Nat) (ns : List Int) (hn : ns.length ≤ 63) : call (n + 1) 17 [.fn ns] none = some (.box, some ⟨ns, [0, 4711 + ns.length]⟩) := by
  rw [call, callI_eq]; exact if_pos hn
theorem call_draw (n : Nat) {b : BS} (h : BOk b) (many : Int) (h0 : 0 < many) (h1 : many < 1073741824) : ∃ v b1, call (n + 1) 19 [.box, .int many] b = some (.int v, b1) ∧ 0 ≤ v ∧ v < many ∧ BOk b1 := by
  rw [call, callI_eq]; exact draw_ok h many h0 h1
theorem same' (n : Nat) (x : D) (b : BS) (h : Smp n x) : call n 20 [x, x] b = some (.bl true, b) := same_ok rfl rfl n x b h
end Lw

/-! The engine, part Gd: dicts with keys that are tuples of ints, and sorting of such tuples, as the laws meet them. -/
namespace En
open PySem PySem.Spec PyProof.Rows L2
/-- a tuple of ints -/
def dI (l : List Int) : D := .tup (l.map .int)
def pI (l : List Int) : PyData := .tuple (l.map .int)
theorem eqvDs_ints : ∀ l m : List Int, eqvDs (l.map .int) (m.map .int) = decide (l = m)
  | [], [] => rfl
  | [], _ :: _ => by simp [eqvDs]
  | _ :: _, [] => by simp [eqvDs]
  | a :: l, c :: m => by
    simp only [List.map_cons, eqvDs, eqvD, eqvDs_ints l m]
    by_cases h : a = c
    · simp [h]
    · simp [h]
theorem keyEq_dI (l m : List Int) : keyEq (dI l) (dI m) = decide (l = m) := eqvDs_ints l m
theorem keysD_ints : ∀ l : List Int, keysD (l.map .int) = some (l.map Sum.inl)
  | [] => rfl
  | a :: l => by simp only [List.map_cons, keysD, keyD, keysD_ints l]
theorem isTupD_dI (l : List Int) : isTupD (dI l) = true := by simp [isTupD, dI, keysD_ints]
theorem allTup_dI (L : List (List Int)) : (L.map dI).all isTupD = true := by
  rw [List.all_map, List.all_eq_true]
  exact fun l _ => isTupD_dI l
theorem sameK_dI (l : List Int) (L : List (List Int)) : sameK (dI l) (L.map dI) = true := by
  have h := allTup_dI L
  simp only [sameK, dI, keysD_ints] at *
  simpa using h
theorem any_dI (l : List Int) : ∀ L : List (List Int), ((L.map dI).any fun k => keyEq k (dI l)) = decide (l ∈ L)
  | [] => rfl
  | m :: L => by
    rw [List.map_cons, List.any_cons, any_dI l L, keyEq_dI]
    by_cases h : m = l
    · simp [h]
    · have h2 : ¬ l = m := fun e => h e.symm
      simp [h, h2]
theorem inDct (l : List Int) (L : List (List Int)) (vs : List D) : cmpD .In (dI l) (.dct (L.map dI) vs) = some (decide (l ∈ L)) := by
  simp only [cmpD, inD, sameK_dI, if_true, any_dI]
theorem ninDct (l : List Int) (L : List (List Int)) (vs : List D) : cmpD .NotIn (dI l) (.dct (L.map dI) vs) = some (!decide (l ∈ L)) := by
  simp only [cmpD, inD, sameK_dI, if_true, any_dI]
  rfl
def addK (l : List Int) (L : List (List Int)) : List (List Int) := if l ∈ L then L else L ++ [l]
theorem putD_dI (l : List Int) : ∀ L : List (List Int), putD (dI l) (.bl true) (L.map dI) (L.map fun _ => D.bl true) = ((addK l L).map dI, (addK l L).map fun _ => D.bl true)
  | [] => rfl
  | m :: L => by
    simp only [List.map_cons, putD, keyEq_dI]
    by_cases h : m = l
    · subst h
      simp [addK]
    · have h2 : ¬ l = m := fun e => h e.symm
      simp only [h, decide_false, Bool.false_eq_true, if_false, putD_dI l L]
      unfold addK
      by_cases h3 : l ∈ L
      · simp [h3]
      · simp [h3, h2]
/-- the dict of tuples, each with True -/
def dDc (L : List (List Int)) : D := .dct (L.map dI) (L.map fun _ => .bl true)
theorem putDct (l : List Int) (L : List (List Int)) (hz : L.length < 100000) : putX (dDc L) (dI l) (.bl true) = some (dDc (addK l L)) := by
  unfold dDc
  simp only [putX, sameK_dI, putD_dI]
  rw [if_pos]
  simp only [List.length_map, Bool.true_and, decide_eq_true_eq]
  exact lt_size (by omega)
theorem dsp1_dI (l : List Int) : mthD .dsp1 (dI l) [.bl true] = some (dDc [l]) := by
  simp only [mthD, isTupD_dI, if_true]
  rfl
/-! ### sorting -/
def leI (l m : List Int) : Bool := leP (pI l) (pI m)
theorem leI_trans (a b c : List Int) (h1 : leI a b = true) (h2 : leI b c = true) : leI a c = true := leP_trans _ _ _ h1 h2
theorem leI_total (a b : List Int) : (leI a b || leI b a) = true := leP_total _ _
theorem cmpPs_ints : ∀ l m : List Int, cmpPs (l.map .int) (m.map .int) = .eq → l = m
  | [], [], _ => rfl
  | [], _ :: _, h => by simp [cmpPs] at h
  | _ :: _, [], h => by simp [cmpPs] at h
  | a :: l, c :: m, h => by
    simp only [List.map_cons, cmpPs, cmpP] at h
    rw [Ordering.then_eq_eq] at h
    have e1 : a = c := by
      have := h.1
      have e2 := int_lt a c
      have e3 := int_gt a c
      rw [this] at e2 e3
      have e4 : ¬ a < c := by simpa [tst] using e2
      have e5 : ¬ c < a := by simpa [tst] using e3
      omega
    rw [e1, cmpPs_ints l m h.2]
theorem leI_anti (a b : List Int) (h1 : leI a b = true) (h2 : leI b a = true) : a = b := by
  unfold leI leP at h1 h2
  rw [cmpP_swap (pI a) (pI b)] at h2
  have : cmpP (pI a) (pI b) = .eq := by
    cases e : cmpP (pI a) (pI b) with
    | eq => rfl
    | lt => rw [e] at h2; simp at h2
    | gt => rw [e] at h1; simp at h1
  exact cmpPs_ints a b (by simpa [pI, cmpP] using this)
/-- the tuples in their order, whichever way they came -/
theorem sort_same {L M : List (List Int)} (hp : L.Perm M) : L.mergeSort leI = M.mergeSort leI := by
  have h1 := List.pairwise_mergeSort leI_trans leI_total L
  have h2 := List.pairwise_mergeSort leI_trans leI_total M
  have hp2 : (L.mergeSort leI).Perm (M.mergeSort leI) := ((List.mergeSort_perm L leI).trans hp).trans (List.mergeSort_perm M leI).symm
  exact hp2.eq_of_pairwise (fun a b _ _ h1 h2 => leI_anti a b h1 h2) h1 h2
theorem perm_of {L M : List (List Int)} (h1 : L.Nodup) (h2 : M.Nodup) (h : ∀ x, x ∈ L ↔ x ∈ M) : L.Perm M := (List.perm_ext_iff_of_nodup h1 h2).mpr h
theorem pys_ints : ∀ l : List Int, pys (l.map .int) = some (l.map PyData.int)
  | [] => rfl
  | a :: l => by simp only [List.map_cons, pys, py, pys_ints l]
theorem py_dI (l : List Int) : py (dI l) = some (pI l) := by simp only [dI, py, pys_ints]; rfl
theorem pys_dI : ∀ L : List (List Int), pys (L.map dI) = some (L.map pI)
  | [] => rfl
  | l :: L => by simp only [List.map_cons, pys, py_dI, pys_dI L]
theorem leD_dI (l m : List Int) : leD (dI l) (dI m) = leI l m := by simp only [leD, py_dI]; rfl
theorem okPs_ints : ∀ l m : List Int, okPs (l.map .int) (m.map .int) = true
  | [], _ => by simp [okPs]
  | _ :: _, [] => by simp [okPs]
  | a :: l, c :: m => by simp [okPs, okP, okPs_ints l m]
theorem okP_pI (l m : List Int) : okP (pI l) (pI m) = true := by
  have := okPs_ints l m
  simpa [pI, okP] using this
theorem canLay_ints : ∀ l : List Int, PyData.canLayAll0 (l.map .int) = true
  | [] => by simp [PyData.canLayAll0]
  | a :: l => by simp [PyData.canLayAll0, PyData.canLay0, canLay_ints l]
theorem depth_ints : ∀ l : List Int, PyData.depthAll (l.map .int) = 0
  | [] => by simp [PyData.depthAll]
  | a :: l => by simp [PyData.depthAll, PyData.depth, depth_ints l]
theorem lay_pI (l : List Int) : (pI l).canLay0 = true ∧ (pI l).depth = 1 := by
  refine ⟨?_, ?_⟩
  · simp [pI, PyData.canLay0, canLay_ints]
  · simp [pI, PyData.depth, depth_ints]
theorem sortOk_pI (L : List (List Int)) (h : ∀ l ∈ L, l ≠ []) : sortOk (L.map pI) = true := by
  unfold sortOk
  rw [Bool.and_eq_true, Bool.or_eq_true]
  refine ⟨.inl ?_, ?_⟩
  · rw [List.all_map, List.all_eq_true]
    intro l hl
    cases l with
    | nil => exact absurd rfl (h _ hl)
    | cons a l => simp [pI, fstK]
  · rw [List.all_map, List.all_eq_true]
    intro l hl
    have := lay_pI l
    simp [this.1, this.2, okP_pI]
theorem sort_map (L : List (List Int)) : (L.map dI).mergeSort leD = (L.mergeSort leI).map dI := (List.map_mergeSort (f := dI) (r := leI) (s := leD) fun a _ c _ => (leD_dI a c).symm).symm
theorem sortedDct (L : List (List Int)) (vs : List D) (h : ∀ l ∈ L, l ≠ []) : biD .sorted [.dct (L.map dI) vs] = some (.lst ((L.mergeSort leI).map dI)) := by
  simp only [biD, allTup_dI, if_true, pys_dI, sortOk_pI L h, sort_map]
theorem sortedLst (L : List (List Int)) (h : ∀ l ∈ L, l ≠ []) : biD .sorted [.lst (L.map dI)] = some (.lst ((L.mergeSort leI).map dI)) := by
  cases L with
  | nil => simp [biD, intsD]
  | cons l L =>
    have e : intsD ((l :: L).map dI) = none := by simp [intsD, dI]
    simp only [biD, e, pys_dI, sortOk_pI (l :: L) h, sort_map, if_true]
theorem sumT_dI (l : List Int) : sumT (dI l) = some l.sum := by simp [sumT, dI, intsD_map]
theorem skey_dI (L : List (List Int)) : mthD .skey (.tup (L.map dI)) [] = some (.lst ((L.mergeSort fun a c => decide (c.sum ≤ a.sum)).map dI)) := by
  have h : ((L.map dI).all fun r => (sumT r).isSome) = true := by
    rw [List.all_map, List.all_eq_true]
    intro l _
    simp [sumT_dI]
  simp only [mthD, h, if_true]
  congr 2
  exact (List.map_mergeSort fun a _ c _ => by simp [sumT_dI]).symm
theorem desc_sum (L : List (List Int)) : (L.mergeSort fun a c => decide (c.sum ≤ a.sum)).Pairwise fun a c => c.sum ≤ a.sum := by
  have := List.pairwise_mergeSort (le := fun a c : List Int => decide (c.sum ≤ a.sum)) (fun a b c h1 h2 => by simp only [decide_eq_true_eq] at *; omega) (fun a b => by simp only [Bool.or_eq_true, decide_eq_true_eq]; omega) L
  exact this.imp fun h => by simpa using h
end En

namespace Lw
open PySem PySem.Spec PyProof.Rows L2 En
abbrev Tr := List (List Int)
abbrev Sta := List Nat
def rd (t : Tr) (k : Nat) : List Int := t.getD k []
def ps (s : Sta) (k : Nat) : Nat := s.getD k 0
def dR (r : List Int) : D := .tup (r.map .int)
def dA (a : Nat) : D := .int (a : Int)
def dTr (t : Tr) : D := .tup (t.map dR)
def dSt (s : Sta) : D := .tup (s.map dA)
/-- train k is on its way -/
def lv (t : Tr) (s : Sta) (k : Nat) : Bool := decide (ps s k < (rd t k).length)
def blk (t : Tr) (s : Sta) (k : Nat) : Int := (rd t k).getD (ps s k) 0
def stands (t : Tr) (s : Sta) : List Int := ((List.range s.length).filter (lv t s)).map (blk t s)
def nx (t : Tr) (s : Sta) (k : Nat) : Option Int := (rd t k)[ps s k + 1]?
def mv (t : Tr) (s : Sta) (k : Nat) : Bool := lv t s k && (match nx t s k with | none => true | some b => !decide (b ∈ stands t s))
def moves (t : Tr) (s : Sta) : List Nat := (List.range s.length).filter (mv t s)
theorem idx_rd (t : Tr) (k : Nat) (h : k < t.length) : idxD (dTr t) (.int (k : Int)) = some (dR (rd t k)) := by
  refine idx_map t dR k (rd t k) ?_
  rw [rd, List.getD_eq_getElem?_getD, List.getElem?_eq_getElem h]; rfl
theorem idx_ps (s : Sta) (k : Nat) (h : k < s.length) : idxD (dSt s) (.int (k : Int)) = some (.int (ps s k : Int)) := by
  refine idx_map s dA k (ps s k) ?_
  rw [ps, List.getD_eq_getElem?_getD, List.getElem?_eq_getElem h]; rfl
theorem idx_R (r : List Int) (k : Nat) (h : k < r.length) : idxD (dR r) (.int (k : Int)) = some (.int (r.getD k 0)) := idx_intst r k (by omega) (by omega)
theorem lenR (r : List Int) : biD .len [dR r] = some (.int (r.length : Int)) := by
  show some (D.int ((r.map D.int).length : Int)) = _; rw [List.length_map]
theorem lenS (s : Sta) : biD .len [dSt s] = some (.int (s.length : Int)) := by
  show some (D.int ((s.map dA).length : Int)) = _; rw [List.length_map]
theorem lenT (t : Tr) : biD .len [dTr t] = some (.int (t.length : Int)) := by
  show some (D.int ((t.map dR).length : Int)) = _; rw [List.length_map]
theorem lt_nat (a b : Nat) : cmpD .Lt (.int (a : Int)) (.int (b : Int)) = some (decide (a < b)) := by
  show some (decide ((a : Int) < (b : Int))) = _; simp
theorem map_range {α β : Type} (l : List α) (d : α) (f : α → β) : l.map f = (List.range l.length).map fun k => f (l.getD k d) := by
  refine List.ext_getElem (by simp) fun i h1 h2 => ?_
  simp only [List.getElem_map, List.getElem_range]
  rw [List.getD_eq_getElem?_getD, List.getElem?_eq_getElem (by simpa using h1)]; rfl
theorem zip_ts (t : Tr) (s : Sta) (h : t.length = s.length) : zipD (dTr t) (dSt s) = some ((List.range s.length).map fun k => .tup [dR (rd t k), .int (ps s k : Int)]) := by
  show some (((t.map dR).zip (s.map dA)).map _) = _
  congr 1
  refine List.ext_getElem (by simp [h]) fun i h1 h2 => ?_
  simp only [List.getElem_map, List.getElem_range, List.getElem_zip]
  have h3 : i < s.length := by simpa using h2
  have h4 : i < t.length := by omega
  rw [rd, ps, List.getD_eq_getElem?_getD, List.getD_eq_getElem?_getD, List.getElem?_eq_getElem h3, List.getElem?_eq_getElem h4]
  rfl
theorem enum_s (s : Sta) : enumD (dSt s) = some ((List.range s.length).map fun k => .tup [.int (k : Int), .int (ps s k : Int)]) := by
  show some (((s.map dA).zipIdx).map _) = _
  congr 1
  refine List.ext_getElem (by simp) fun i h1 h2 => ?_
  simp only [List.getElem_map, List.getElem_range, List.getElem_zipIdx]
  have h3 : i < s.length := by simpa using h2
  rw [ps, List.getD_eq_getElem?_getD, List.getElem?_eq_getElem h3]
  simp [dA]
theorem range_size {n : Nat} (h : n ≤ 1000) : (List.range n).length ≤ sizeLine := by
  rw [List.length_range]; exact le_size (by omega)
theorem nat_rng (n : Nat) (h : n ≤ 1000) : rngI [.int (n : Int)] = some ((List.range n).map fun i : Nat => .int (i : Int)) := rngD_ok _ (by omega) (by omega)
section
variable (n : Nat) (t : Tr) (s : Sta) (b : BS) (ht : t.length = s.length) (hs : s.length ≤ 100)
include ht hs
theorem law_stands_ok : call (n + 1) 22 [dTr t, dSt s] b = some (.lst ((stands t s).map .int), b) := by
  refine call_eq (fd := t__law_stands.fd) rfl rfl _ rfl _ _ _ ?_
  refine .inr ⟨_, rfl, _, lenS s, _, nat_rng _ (by omega), ?_⟩
  refine lc_filter (cl := ⟨call n, conOf C⟩) (List.range s.length) (fun i : Nat => .int (i : Int)) (fun k => .int (blk t s k)) (lv t s) (fun k hk => ?_) (range_size (by omega)) ?_
  · have hk : k < s.length := by simpa using hk
    refine ⟨_, rfl, _, rfl, _, rfl, _, idx_ps s k hk, _, rfl, _, rfl, _, idx_rd t k (by omega), _, lenR _, _, lt_nat _ _, _, rfl, rfl, rfl, fun hp => ?_⟩
    exact ⟨_, rfl, _, rfl, _, idx_rd t k (by omega), _, rfl, _, rfl, _, idx_ps s k hk, _, idx_R _ _ (by simpa [lv] using hp), rfl, rfl⟩
  · refine ⟨?_, rfl⟩
    rw [stands, List.map_map]; rfl
theorem blocks_in_ok : call (n + 1) 2 [dTr t, dSt s] b = some (.lst ((stands t s).map .int), b) := by
  refine call_eq (fd := t_blocks_in.fd) rfl rfl _ rfl _ _ _ ?_
  refine .inr ⟨_, rfl, _, rfl, _, zip_ts t s ht, ?_⟩
  refine lc_filter (cl := ⟨call n, conOf C⟩) (List.range s.length) (fun k => .tup [dR (rd t k), .int (ps s k : Int)]) (fun k => .int (blk t s k)) (lv t s) (fun k hk => ?_) (range_size (by omega)) ?_
  · have hk : k < s.length := by simpa using hk
    refine ⟨_, rfl, _, rfl, _, rfl, _, lenR _, _, lt_nat _ _, _, rfl, rfl, rfl, fun hp => ?_⟩
    exact ⟨_, rfl, _, rfl, _, idx_R _ _ (by simpa [lv] using hp), rfl, rfl⟩
  · refine ⟨?_, rfl⟩
    rw [stands, List.map_map]; rfl
def dO : Option Int → D
  | none => .non
  | some b => .int b
theorem next_block_ok (k : Nat) (hk : k < s.length) : call (n + 1) 5 [dTr t, dSt s, dA k] b = some (dO (nx t s k), b) := by
  refine call_eq (fd := t_next_block.fd) rfl rfl _ rfl _ _ _ ?_
  refine ⟨_, rfl, _, rfl, _, idx_ps s k hk, _, rfl, (Nat.le_of_ble_eq_true rfl), ?_⟩
  refine ⟨_, rfl, _, rfl, _, rfl, _, idx_rd t k (by omega), _, lenR _, _, lt_nat (ps s k + 1) _, _, rfl, ?_⟩
  by_cases h : ps s k + 1 < (rd t k).length
  · refine br_t (by simpa using h) ⟨_, rfl, _, rfl, _, idx_rd t k (by omega), _, rfl, _, idx_R _ (ps s k + 1) h, ?_, rfl⟩
    rw [nx, List.getElem?_eq_getElem h, List.getD_eq_getElem?_getD, List.getElem?_eq_getElem h]; rfl
  · refine br_f (by simpa using h) ⟨?_, rfl⟩
    rw [nx, List.getElem?_eq_none (by omega)]; rfl
end
end Lw
namespace Lw
open PySem PySem.Spec PyProof.Rows L2 En
theorem fold_filter {α : Type} (p : α → Bool) : ∀ (L acc : List α), L.foldl (fun acc k => if p k then acc ++ [k] else acc) acc = acc ++ L.filter p
  | [], acc => by simp
  | k :: L, acc => by
    rw [List.foldl_cons, fold_filter p L]
    cases h : p k <;> simp [h]
def ahd : Option Int → List D
  | none => []
  | some b => [.int b]
theorem ahead (r : List Int) (a : Nat) : slcD (dR r) (some ((a : Int) + 1)) (some ((a : Int) + 2)) = some (.tup (ahd r[a + 1]?)) := by
  show some (D.tup (cutD _ _ _)) = _
  rw [cut_ft _ _ _ (by omega) (by omega), show ((a : Int) + 1).toNat = a + 1 by omega, show ((a : Int) + 2 - ((a : Int) + 1)).toNat = 1 by omega]
  congr 2
  by_cases h : a + 1 < r.length
  · rw [List.getElem?_eq_getElem h, List.drop_eq_getElem_cons (by simpa using h)]
    simp [ahd]
  · rw [List.getElem?_eq_none (by omega), List.drop_eq_nil_of_le (by simpa using h)]
    rfl
theorem flt_t {α β : Type} {p : α → Bool} {f : α → β} {pre : List α} {k : α} (h : p k = true) : ((pre ++ [k]).filter p).map f = (pre.filter p).map f ++ [f k] := by
  rw [List.filter_append, List.map_append]
  simp only [List.filter_cons, h, if_true, List.filter_nil, List.map_cons, List.map_nil]
theorem flt_f {α β : Type} {p : α → Bool} {f : α → β} {pre : List α} {k : α} (h : p k = false) : ((pre ++ [k]).filter p).map f = (pre.filter p).map f := by
  rw [List.filter_append, List.map_append]
  simp [h]
theorem moves_len (t : Tr) (s : Sta) : (moves t s).length ≤ s.length := by
  refine Nat.le_trans (List.length_filter_le _ _) ?_
  simp
theorem ife_app {cl : Calls} {W : Nat} {c : CE} {i : Nat} {e : CE} {env : En.Env} {b : BS} {Q : Fl × En.Env × BS → Prop} (k : Bool) (h : we cl c env b fun x b' => x = .bl k ∧ b' = b) (ht : k = true → wss cl W [.app i e] (frzE (sk c) env) b Q) (hf : k = false → Q (.nxt, frzE (sk c) env, b)) : wss cl W [.ife c [.app i e] []] env b Q := by
  refine we_mono c env b _ _ (fun x b' ⟨h1, h2⟩ => ?_) h
  subst h1 h2
  refine ⟨k, rfl, fun hk => ?_, fun hk => hf hk⟩
  exact ht hk
section
variable (n : Nat) (t : Tr) (s : Sta) (b : BS) (ht : t.length = s.length) (hs : s.length ≤ 100)
include ht hs
theorem can_move_ok : call (n + 2) 6 [dTr t, dSt s] b = some (.tup ((moves t s).map dA), b) := by
  refine call_eq (fd := t_can_move.fd) rfl rfl _ rfl _ _ _ ?_
  refine ⟨_, rfl, _, rfl, _, _, blocks_in_ok n t s b ht hs, (Nat.le_of_ble_eq_true rfl), _, rfl, ?_⟩
  refine .inr ⟨_, rfl, _, enum_s s, ?_⟩
  refine for_pre (List.range s.length) (fun k => .tup [.int (k : Int), .int (ps s k : Int)]) (fun pre e bb => bb = b ∧ ∃ x4 x5, e = [some (dTr t, false), some (dSt s, false), some (.lst ((stands t s).map .int), false), some (.lst ((pre.filter (mv t s)).map dA), true), x4, x5]) ⟨rfl, none, none, rfl⟩ (fun pre k rest env bb hd hi => ?_) fun env bb hi => ?_
  · obtain ⟨rfl, x4, x5, rfl⟩ := hi
    have hk : k < s.length := by
      have : k ∈ List.range s.length := by rw [hd]; simp
      simpa using this
    have hl : ((pre.filter (mv t s)).map dA).length < sizeLine := by
      have h1 := congrArg List.length hd
      simp at h1
      have h2 := List.length_filter_le (mv t s) pre
      rw [List.length_map]; exact lt_size (by omega)
    refine ⟨_, rfl, ?_⟩
    refine ife_app (mv t s k) ?_ (fun hp => ?_) (fun hp => ?_)
    · refine ⟨_, rfl, _, rfl, _, rfl, _, idx_rd t k (by omega), _, lenR _, _, lt_nat _ _, _, rfl, ?_⟩
      by_cases h : ps s k < (rd t k).length
      · have hlv : lv t s k = true := by simpa [lv] using h
        refine br_t (by simp [goOn, h]) ?_
        refine ⟨_, rfl, _, rfl, _, rfl, _, _, next_block_ok n t s _ ht hs k hk, _, rfl, ?_⟩
        cases hn : nx t s k with
        | none => exact ⟨_, non_nin _, by rw [mv, hlv, hn]; rfl, rfl⟩
        | some z => exact ⟨_, int_nin _ _, by rw [mv, hlv, hn]; rfl, rfl⟩
      · have hlv : lv t s k = false := by simpa [lv] using h
        refine br_f (by simp [goOn, h]) ⟨?_, rfl⟩
        rw [mv, hlv]; simp [h]
    · refine ⟨_, rfl, _, rfl, hl, rfl, ?_⟩
      rw [flt_t hp]
      exact ⟨_, _, rfl⟩
    · refine ⟨rfl, ?_⟩
      rw [flt_f hp]
      exact ⟨_, _, rfl⟩
  · obtain ⟨rfl, x4, x5, rfl⟩ := hi
    repeat' (first | exact ⟨rfl, rfl⟩ | refine ⟨_, rfl, ?_⟩ | refine ⟨_, rngD_ok _ (by omega) (by omega), ?_⟩ | refine ⟨_, rngD_ok2 _ _ (by omega) (by omega) (by omega) (by omega), ?_⟩ | refine ⟨Nat.le_of_ble_eq_true rfl, ?_⟩ | refine ⟨⟨rfl, Nat.le_of_ble_eq_true rfl, rfl⟩, ?_⟩ | refine ⟨fun _ => ?_, fun h => Bool.noConfusion (show true = false from h)⟩ | refine ⟨fun h => Bool.noConfusion (show false = true from h), fun _ => ?_⟩ | fail)
theorem law_moves_ok : call (n + 2) 23 [dTr t, dSt s] b = some (.lst ((moves t s).map dA), b) := by
  refine call_eq (fd := t__law_moves.fd) rfl rfl _ rfl _ _ _ ?_
  refine ⟨(Nat.le_of_ble_eq_true rfl), (Nat.le_of_ble_eq_true rfl), ?_⟩
  refine .inr ⟨_, rfl, _, lenS s, _, nat_rng _ (by omega), ?_⟩
  refine for_pre (List.range s.length) (fun i : Nat => .int (i : Int)) (fun pre e bb => bb = b ∧ ∃ x3 x4, e = [some (dTr t, false), some (dSt s, false), some (.lst ((pre.filter (mv t s)).map dA), true), x3, x4]) ⟨rfl, none, none, rfl⟩ (fun pre k rest env bb hd hi => ?_) fun env bb hi => ?_
  · obtain ⟨rfl, x3, x4, rfl⟩ := hi
    have hk : k < s.length := by
      have : k ∈ List.range s.length := by rw [hd]; simp
      simpa using this
    have hl : ((pre.filter (mv t s)).map dA).length < sizeLine := by
      have h1 := congrArg List.length hd
      simp at h1
      have h2 := List.length_filter_le (mv t s) pre
      rw [List.length_map]; exact lt_size (by omega)
    refine ⟨_, rfl, ?_⟩
    refine ⟨_, rfl, _, rfl, _, idx_ps s k hk, _, rfl, _, rfl, _, idx_rd t k (by omega), _, lenR _, _, lt_nat _ _, _, rfl, ?_⟩
    by_cases h : ps s k < (rd t k).length
    · have hlv : lv t s k = true := by simpa [lv] using h
      refine br_t (by simpa using h) ?_
      refine ⟨_, rfl, _, rfl, _, idx_rd t k (by omega), _, rfl, _, rfl, _, idx_ps s k hk, _, rfl, _, rfl, _, rfl, _, rfl, _, idx_ps s k hk, _, rfl, _, rfl, _, ahead _ _, (Nat.le_of_ble_eq_true rfl), ?_⟩
      refine ife_app (mv t s k) ?_ (fun hp => ?_) (fun hp => ?_)
      · cases hn : nx t s k with
        | none =>
          have hn' : (rd t k)[ps s k + 1]? = none := hn
          rw [hn']
          refine ⟨_, rfl, _, rfl, _, rfl, _, rfl, ?_⟩
          refine br_f rfl ⟨?_, rfl⟩
          rw [mv, hlv, hn]; rfl
        | some z =>
          have hn' : (rd t k)[ps s k + 1]? = some z := hn
          rw [hn']
          refine ⟨_, rfl, _, rfl, _, rfl, _, rfl, ?_⟩
          refine br_t rfl ?_
          refine ⟨_, rfl, _, rfl, _, rfl, _, rfl, _, _, law_stands_ok n t s _ ht hs, _, int_nin _ _, ?_, rfl⟩
          rw [mv, hlv, hn]; rfl
      · refine ⟨_, rfl, _, rfl, hl, rfl, ?_⟩
        rw [flt_t hp]
        exact ⟨_, _, rfl⟩
      · refine ⟨rfl, ?_⟩
        rw [flt_f hp]
        exact ⟨_, _, rfl⟩
    · have hlv : lv t s k = false := by simpa [lv] using h
      refine br_f (by simpa using h) ?_
      refine ⟨rfl, ?_⟩
      have hp : mv t s k = false := by rw [mv, hlv]; rfl
      rw [flt_f hp]
      exact ⟨_, _, rfl⟩
  · obtain ⟨rfl, x3, x4, rfl⟩ := hi
    repeat' (first | exact ⟨rfl, rfl⟩ | refine ⟨_, rfl, ?_⟩ | refine ⟨_, rngD_ok _ (by omega) (by omega), ?_⟩ | refine ⟨_, rngD_ok2 _ _ (by omega) (by omega) (by omega) (by omega), ?_⟩ | refine ⟨Nat.le_of_ble_eq_true rfl, ?_⟩ | refine ⟨⟨rfl, Nat.le_of_ble_eq_true rfl, rfl⟩, ?_⟩ | refine ⟨fun _ => ?_, fun h => Bool.noConfusion (show true = false from h)⟩ | refine ⟨fun h => Bool.noConfusion (show false = true from h), fun _ => ?_⟩ | fail)
end
end Lw
namespace Lw
open PySem PySem.Spec PyProof.Rows L2 En
def nxt (s : Sta) (k : Nat) : Sta := s.set k (ps s k + 1)
def done (t : Tr) (s : Sta) : Bool := (List.range s.length).all fun k => decide (ps s k = (rd t k).length)
theorem slcS_to (s : Sta) (k : Nat) : slcD (dSt s) none (some (k : Int)) = some (dSt (s.take k)) := by
  show some (D.tup (cutD _ _ _)) = _; rw [cut_to _ _ (by omega), ← List.map_take]; rfl
theorem slcS_from (s : Sta) (k : Nat) : slcD (dSt s) (some ((k : Int) + 1)) none = some (dSt (s.drop (k + 1))) := by
  show some (D.tup (cutD _ _ _)) = _; rw [cut_from _ _ (by omega), ← List.map_drop, show ((k : Int) + 1).toNat = k + 1 by omega]; rfl
theorem addS (a c : Sta) (h : a.length + c.length ≤ 100000) : binD .Add (dSt a) (dSt c) = some (dSt (a ++ c)) := by
  rw [dSt, dSt, addT _ _ (by simpa using h), ← List.map_append]; rfl
theorem nxt_eq (s : Sta) (k : Nat) (h : k < s.length) : nxt s k = s.take k ++ [ps s k + 1] ++ s.drop (k + 1) := by
  rw [nxt, List.set_eq_take_append_cons_drop, if_pos h]; simp
theorem eq_nat (a c : Nat) : cmpD .Eq (.int (a : Int)) (.int (c : Int)) = some (decide (a = c)) := by
  rw [En.eq_int]; simp [Int.ofNat_inj]
section
variable (n : Nat) (t : Tr) (s : Sta) (b : BS) (ht : t.length = s.length) (hs : s.length ≤ 100)
include hs
theorem state_behind_ok (k : Nat) (hk : k < s.length) : call (n + 1) 7 [dTr t, dSt s, dA k] b = some (dSt (nxt s k), b) := by
  refine call_eq (fd := t_state_behind.fd) rfl rfl _ rfl _ _ _ ?_
  have h1 : (s.take k).length ≤ 100 := by rw [List.length_take]; omega
  have h2 : (s.drop (k + 1)).length ≤ 100 := by rw [List.length_drop]; omega
  refine ⟨_, rfl, _, rfl, _, rfl, _, slcS_to s k, _, rfl, _, rfl, _, idx_ps s k hk, _, rfl, (Nat.le_of_ble_eq_true rfl), ?_⟩
  refine ⟨_, addS (s.take k) [ps s k + 1] (by simp; omega), _, rfl, _, rfl, _, rfl, _, rfl, _, slcS_from s k, _, addS (s.take k ++ [ps s k + 1]) _ (by rw [List.length_append]; simp only [List.length_singleton]; omega), ?_, rfl⟩
  rw [nxt_eq s k hk]
theorem law_next_ok (k : Nat) (hk : k < s.length) : call (n + 1) 24 [dSt s, dA k] b = some (dSt (nxt s k), b) := by
  refine call_eq (fd := t__law_next.fd) rfl rfl _ rfl _ _ _ ?_
  have h1 : (s.take k).length ≤ 100 := by rw [List.length_take]; omega
  have h2 : (s.drop (k + 1)).length ≤ 100 := by rw [List.length_drop]; omega
  refine ⟨_, rfl, _, rfl, _, rfl, _, slcS_to s k, _, rfl, _, rfl, _, idx_ps s k hk, _, rfl, (Nat.le_of_ble_eq_true rfl), ?_⟩
  refine ⟨_, addS (s.take k) [ps s k + 1] (by simp; omega), _, rfl, _, rfl, _, rfl, _, rfl, _, slcS_from s k, _, addS (s.take k ++ [ps s k + 1]) _ (by rw [List.length_append]; simp only [List.length_singleton]; omega), ?_, rfl⟩
  rw [nxt_eq s k hk]
include ht
theorem is_through_ok : call (n + 1) 4 [dTr t, dSt s] b = some (.bl (done t s), b) := by
  refine call_eq (fd := t_is_through.fd) rfl rfl _ rfl _ _ _ ?_
  refine .inr ⟨_, rfl, _, rfl, _, zip_ts t s ht, ?_⟩
  refine lc_map (cl := ⟨call n, conOf C⟩) (List.range s.length) (fun k => .tup [dR (rd t k), .int (ps s k : Int)]) (fun k => .bl (decide (ps s k = (rd t k).length))) (fun k hk => ?_) (range_size (by omega)) ?_
  · exact ⟨_, rfl, _, rfl, _, rfl, _, lenR _, _, eq_nat _ _, rfl, rfl⟩
  · exact ⟨_, all_map (List.range s.length) _, rfl, rfl⟩
theorem law_done_ok : call (n + 1) 26 [dTr t, dSt s] b = some (.bl (done t s), b) := by
  refine call_eq (fd := t__law_done.fd) rfl rfl _ rfl _ _ _ ?_
  refine .inr ⟨_, rfl, _, lenS s, _, nat_rng _ (by omega), ?_⟩
  refine lc_map (cl := ⟨call n, conOf C⟩) (List.range s.length) (fun i : Nat => .int (i : Int)) (fun k => .bl (decide (ps s k = (rd t k).length))) (fun k hk => ?_) (range_size (by omega)) ?_
  · have hk : k < s.length := by simpa using hk
    exact ⟨_, rfl, _, rfl, _, rfl, _, idx_ps s k hk, _, rfl, _, rfl, _, idx_rd t k (by omega), _, lenR _, _, eq_nat _ _, rfl, rfl⟩
  · exact ⟨_, all_map (List.range s.length) _, rfl, rfl⟩
end
end Lw

namespace Lw
open PySem PySem.Spec PyProof.Rows L2 En
/-- a state that may be: at most through, no two in one block -/
structure Ok (t : Tr) (s : Sta) : Prop where
  len : t.length = s.length
  le : ∀ k, k < s.length → ps s k ≤ (rd t k).length
  dst : ∀ i j, i < s.length → j < s.length → i ≠ j → lv t s i = true → lv t s j = true → blk t s i ≠ blk t s j
theorem nxt_len (s : Sta) (k : Nat) : (nxt s k).length = s.length := by simp [nxt]
theorem ps_nxt (s : Sta) (k j : Nat) (hk : k < s.length) : ps (nxt s k) j = if j = k then ps s k + 1 else ps s j := by
  unfold nxt ps
  rw [List.getD_eq_getElem?_getD, List.getElem?_set]
  by_cases h : k = j
  · subst h; simp [hk]
  · rw [if_neg h, if_neg (fun e => h e.symm)]; rw [List.getD_eq_getElem?_getD]
theorem mem_stands {t : Tr} {s : Sta} {j : Nat} (h : j < s.length) (hl : lv t s j = true) : blk t s j ∈ stands t s := by
  unfold stands
  exact List.mem_map.mpr ⟨j, List.mem_filter.mpr ⟨by simpa using h, hl⟩, rfl⟩
theorem Ok.nxt {t : Tr} {s : Sta} (o : Ok t s) {k : Nat} (hk : k ∈ moves t s) : Ok t (nxt s k) := by
  unfold moves at hk
  rw [List.mem_filter] at hk
  obtain ⟨h1, h2⟩ := hk
  have hk : k < s.length := by simpa using h1
  have hm := h2
  unfold mv at hm
  rw [Bool.and_eq_true] at hm
  obtain ⟨hlv, hn⟩ := hm
  have hlt : ps s k < (rd t k).length := by simpa [lv] using hlv
  have key : ∀ j, j < s.length → j ≠ k → lv t (Lw.nxt s k) k = true → lv t s j = true → blk t (Lw.nxt s k) k ≠ blk t s j := by
    intro j hj hjk hl hlj
    have hp : ps (Lw.nxt s k) k = ps s k + 1 := by rw [ps_nxt s k k hk, if_pos rfl]
    have hl : ps s k + 1 < (rd t k).length := by simpa [lv, hp] using hl
    have e : nx t s k = some (blk t (Lw.nxt s k) k) := by
      unfold nx blk
      rw [hp, List.getD_eq_getElem?_getD, List.getElem?_eq_getElem hl]; rfl
    rw [e] at hn
    simp only [Bool.not_eq_true', decide_eq_false_iff_not] at hn
    intro e2
    exact hn (e2 ▸ mem_stands hj hlj)
  have same : ∀ j, j ≠ k → lv t (Lw.nxt s k) j = lv t s j ∧ blk t (Lw.nxt s k) j = blk t s j := fun j hj => by
    unfold lv blk
    rw [ps_nxt s k j hk, if_neg hj]; exact ⟨rfl, rfl⟩
  refine ⟨by rw [nxt_len]; exact o.len, fun j hj => ?_, fun i j hi hj hij li lj => ?_⟩
  · rw [nxt_len] at hj
    rw [ps_nxt s k j hk]
    split
    · rename_i e; subst e; omega
    · exact o.le j hj
  · rw [nxt_len] at hi hj
    by_cases ei : i = k
    · subst ei
      rw [(same j (fun e => hij e.symm)).1] at lj
      rw [(same j (fun e => hij e.symm)).2]
      exact key j hj (fun e => hij e.symm) li lj
    · rw [(same i ei).1] at li
      rw [(same i ei).2]
      by_cases ej : j = k
      · subst ej
        exact (key i hi ei lj li).symm
      · rw [(same j ej).1] at lj
        rw [(same j ej).2]
        exact o.dst i j hi hj hij li lj
theorem Ok.nodup {t : Tr} {s : Sta} (o : Ok t s) : (stands t s).Nodup := by
  unfold stands
  rw [List.Nodup, List.pairwise_map]
  have : ((List.range s.length).filter (lv t s)).Nodup := (List.nodup_range).filter _
  refine List.Pairwise.imp_of_mem (R := (· ≠ ·)) (fun {i j} hi hj hij => ?_) this
  rw [List.mem_filter] at hi hj
  exact o.dst i j (by simpa using hi.1) (by simpa using hj.1) hij hi.2 hj.2
/-! ### there are not too many states -/
theorem nodup_bound : ∀ (n : Nat) (l : List Nat), l.Nodup → (∀ x ∈ l, x < n) → l.length ≤ n
  | 0, l, _, h => by
    cases l with
    | nil => simp
    | cons a l => exact absurd (h a (by simp)) (by omega)
  | n + 1, l, hd, h => by
    have := nodup_bound n (l.erase n) (hd.erase n) fun x hx => by
      rw [hd.mem_erase_iff] at hx
      have := h x hx.2
      have := hx.1
      omega
    have h2 := List.length_erase (a := n) (l := l)
    split at h2 <;> omega
def code : Sta → Nat
  | [] => 0
  | a :: s => a + 8 * code s
theorem code_lt : ∀ (s : Sta), (∀ a ∈ s, a < 8) → code s < 8 ^ s.length
  | [], _ => by simp [code]
  | a :: s, h => by
    have h1 := code_lt s fun x hx => h x (List.mem_cons_of_mem _ hx)
    have h2 := h a (by simp)
    simp only [code, List.length_cons, Nat.pow_succ]
    omega
theorem code_inj : ∀ (s u : Sta), s.length = u.length → (∀ a ∈ s, a < 8) → (∀ a ∈ u, a < 8) → code s = code u → s = u
  | [], [], _, _, _, _ => rfl
  | [], _ :: _, h, _, _, _ => by simp at h
  | _ :: _, [], h, _, _, _ => by simp at h
  | a :: s, c :: u, h, h1, h2, e => by
    have a1 := h1 a (by simp)
    have a2 := h2 c (by simp)
    simp only [code] at e
    have e1 : a = c := by omega
    have e2 : code s = code u := by omega
    rw [e1, code_inj s u (by simpa using h) (fun x hx => h1 x (List.mem_cons_of_mem _ hx)) (fun x hx => h2 x (List.mem_cons_of_mem _ hx)) e2]
/-- traffics of the law -/
structure TOk (t : Tr) : Prop where
  few : 1 ≤ t.length ∧ t.length ≤ 3
  short : ∀ r ∈ t, 1 ≤ r.length ∧ r.length ≤ 4
theorem TOk.rd {t : Tr} (h : TOk t) {k : Nat} (hk : k < t.length) : 1 ≤ (Lw.rd t k).length ∧ (Lw.rd t k).length ≤ 4 := by
  unfold Lw.rd
  rw [List.getD_eq_getElem?_getD, List.getElem?_eq_getElem hk]
  exact h.short _ (List.getElem_mem hk)
theorem Ok.lt8 {t : Tr} {s : Sta} (h : TOk t) (o : Ok t s) : ∀ a ∈ s, a < 8 := by
  intro a ha
  obtain ⟨k, hk, rfl⟩ := List.getElem_of_mem ha
  have h1 := o.le k hk
  have h2 := h.rd (k := k) (by rw [o.len]; exact hk)
  have : ps s k = s[k] := by unfold ps; rw [List.getD_eq_getElem?_getD, List.getElem?_eq_getElem hk]; rfl
  omega
theorem rows_few {t : Tr} (h : TOk t) {rows : List Sta} (hd : rows.Nodup) (ho : ∀ s ∈ rows, Ok t s) : rows.length ≤ 512 := by
  have h1 : (rows.map code).Nodup := by
    rw [List.Nodup, List.pairwise_map]
    refine List.Pairwise.imp_of_mem (R := (· ≠ ·)) (fun {s u} hs hu hne e => hne ?_) hd
    exact code_inj s u (by rw [← (ho s hs).len, (ho u hu).len]) ((ho s hs).lt8 h) ((ho u hu).lt8 h) e
  have := nodup_bound 512 (rows.map code) h1 fun x hx => by
    obtain ⟨s, hs, rfl⟩ := List.mem_map.mp hx
    refine Nat.lt_of_lt_of_le (code_lt s ((ho s hs).lt8 h)) ?_
    have h2 := (ho s hs).len
    have h3 := h.few
    exact Nat.le_trans (Nat.pow_le_pow_right (by decide) (show s.length ≤ 3 by omega)) (by decide)
  simpa using this
end Lw

namespace Lw
open PySem PySem.Spec PyProof.Rows L2 En
theorem dSt_Pl (s : Sta) : Pl 2 (dSt s) := by
  intro x hx
  simp only [List.mem_map] at hx
  obtain ⟨i, _, rfl⟩ := hx
  trivial
theorem dSt_inj {s u : Sta} (h : dSt s = dSt u) : s = u := by
  simp only [dSt, D.tup.injEq] at h
  exact (List.map_inj_right (fun a c e => by simp only [dA, D.int.injEq] at e; omega)).mp h
theorem dSts_Pl (rows : List Sta) : ∀ d ∈ rows.map dSt, Pl 2 d := by
  intro d hd
  obtain ⟨u, _, rfl⟩ := List.mem_map.mp hd
  exact dSt_Pl u
theorem mem_dSt (s : Sta) (rows : List Sta) : dSt s ∈ rows.map dSt ↔ s ∈ rows := by
  rw [List.mem_map]
  exact ⟨fun ⟨u, hu, e⟩ => dSt_inj e ▸ hu, fun h => ⟨s, h, rfl⟩⟩
theorem nin_rows (s : Sta) (rows : List Sta) : cmpD .NotIn (dSt s) (.lst (rows.map dSt)) = some (!decide (s ∈ rows)) :=
  nin_l (n := 2) _ _ _ (by decide) (dSt_Pl s) (dSts_Pl rows) (by rw [mem_dSt]; simp)
theorem in_rows (s : Sta) (rows : List Sta) : cmpD .In (dSt s) (.lst (rows.map dSt)) = some (decide (s ∈ rows)) :=
  in_l (n := 2) _ _ _ (by decide) (dSt_Pl s) (dSts_Pl rows) (by rw [mem_dSt]; simp)
theorem lenL {α : Type} (l : List α) (f : α → D) : biD .len [.lst (l.map f)] = some (.int (l.length : Int)) := by
  show some (D.int ((l.map f).length : Int)) = _; rw [List.length_map]
theorem lenTu {α : Type} (l : List α) (f : α → D) : biD .len [.tup (l.map f)] = some (.int (l.length : Int)) := by
  show some (D.int ((l.map f).length : Int)) = _; rw [List.length_map]
/-! ### what can be come to -/
inductive Reach (t : Tr) (s : Sta) : Sta → Prop
  | refl : Reach t s s
  | step {u : Sta} {k : Nat} : Reach t s u → k ∈ moves t u → Reach t s (nxt u k)
theorem Reach.ok {t : Tr} {s u : Sta} (o : Ok t s) (r : Reach t s u) : Ok t u := by
  induction r with
  | refl => exact o
  | step _ hk ih => exact ih.nxt hk
theorem Reach.trans {t : Tr} {s u v : Sta} (r : Reach t s u) (q : Reach t u v) : Reach t s v := by
  induction q with
  | refl => exact r
  | step _ hk ih => exact .step ih hk
theorem Reach.one {t : Tr} {s : Sta} {k : Nat} (h : k ∈ moves t s) : Reach t s (nxt s k) := .step .refl h
/-- what is found so far -/
structure Fd (t : Tr) (s : Sta) (rows : List Sta) : Prop where
  st : s ∈ rows
  ok : ∀ u ∈ rows, Ok t u
  nd : rows.Nodup
  rc : ∀ u ∈ rows, Reach t s u
theorem Fd.one {t : Tr} {s : Sta} (o : Ok t s) : Fd t s [s] := ⟨by simp, by simpa using o, by simp, fun u hu => by rw [List.mem_singleton.mp hu]; exact .refl⟩
theorem Fd.add {t : Tr} {s u : Sta} {rows : List Sta} {k : Nat} (f : Fd t s rows) (hu : u ∈ rows) (hk : k ∈ moves t u) (hn : nxt u k ∉ rows) : Fd t s (rows ++ [nxt u k]) := by
  refine ⟨List.mem_append_left _ f.st, fun v hv => ?_, ?_, fun v hv => ?_⟩
  · rcases List.mem_append.mp hv with hv | hv
    · exact f.ok v hv
    · rw [List.mem_singleton.mp hv]; exact (f.ok u hu).nxt hk
  · rw [List.nodup_append]
    refine ⟨f.nd, by simp, fun x hx y hy => ?_⟩
    rw [List.mem_singleton.mp hy]
    exact fun e => hn (e ▸ hx)
  · rcases List.mem_append.mp hv with hv | hv
    · exact f.rc v hv
    · rw [List.mem_singleton.mp hv]; exact .step (f.rc u hu) hk
def Clo (t : Tr) (rows l : List Sta) : Prop := ∀ u ∈ l, ∀ k ∈ moves t u, nxt u k ∈ rows
theorem Fd.all {t : Tr} {s : Sta} {rows : List Sta} (f : Fd t s rows) (c : Clo t rows rows) (u : Sta) : u ∈ rows ↔ Reach t s u := by
  refine ⟨f.rc u, fun r => ?_⟩
  induction r with
  | refl => exact f.st
  | step _ hk ih => exact c _ ih _ hk
theorem Clo.more {t : Tr} {rows l : List Sta} (c : Clo t rows l) (x : Sta) : Clo t (rows ++ [x]) l := fun u hu k hk => List.mem_append_left _ (c u hu k hk)
theorem law_from_ok (n : Nat) (t : Tr) (s : Sta) (b : BS) (h : TOk t) (o : Ok t s) :
    ∃ rows, call (n + 3) 25 [dTr t, dSt s] b = some (.lst (rows.map dSt), b) ∧ Fd t s rows ∧ ∀ u, u ∈ rows ↔ Reach t s u := by
  suffices q : ∃ d b', call (n + 3) 25 [dTr t, dSt s] b = some (d, b') ∧ b' = b ∧ ∃ rows, d = .lst (rows.map dSt) ∧ Fd t s rows ∧ Clo t rows rows by
    obtain ⟨d, b', h1, rfl, rows, rfl, h2, h3⟩ := q
    exact ⟨rows, h1, h2, h2.all h3⟩
  refine cwp (n := n + 2) (g := 25) (fd := t__law_from.fd) rfl rfl [dTr t, dSt s] rfl b (fun d b' => b' = b ∧ ∃ rows, d = .lst (rows.map dSt) ∧ Fd t s rows ∧ Clo t rows rows) ?_
  refine ⟨_, rfl, (Nat.le_of_ble_eq_true rfl), _, rfl, ?_⟩
  refine ⟨fun m e bb => bb = b ∧ ∃ rows a x4, Fd t s rows ∧ m + a = 1000 ∧ a ≤ rows.length ∧ Clo t rows (rows.take a) ∧ e = [some (dTr t, false), some (dSt s, false), some (.lst (rows.map dSt), true), some (.int ((a : Nat) : Int), false), x4], 1000, by decide, ⟨rfl, [s], 0, none, .one o, rfl, by simp, fun u hu => by simp at hu, rfl⟩, ?_⟩
  intro m env bb hi
  obtain ⟨rfl, rows, a, x4, fd, hm, ha, hc, rfl⟩ := hi
  refine ⟨_, rfl, _, rfl, _, lenL rows dSt, _, lt_nat _ _, _, rfl, fun hk => ?_, fun hk => ?_⟩
  · have hge : rows.length ≤ a := by
      have : ¬ a < rows.length := by simpa using hk
      omega
    rw [List.take_of_length_le hge] at hc
    exact ⟨_, rfl, rfl, rows, rfl, fd, hc⟩
  · have hlt : a < rows.length := by simpa using hk
    have hcur : rows[a]? = some rows[a] := List.getElem?_eq_getElem hlt
    generalize hc0 : rows[a] = cur at hcur
    have oc : Ok t cur := hc0 ▸ fd.ok _ (List.getElem_mem hlt)
    have hl : cur.length ≤ 100 := by have := oc.len; have := h.few; omega
    refine .inr ⟨_, rfl, _, rfl, _, rfl, _, idx_mapl rows dSt a cur hcur, _, _, law_moves_ok n t cur _ oc.len hl, _, rfl, ?_⟩
    refine for_pre (moves t cur) dA (fun pre e bb2 => bb2 = bb ∧ ∃ rows' x4, Fd t s rows' ∧ rows'[a]? = some cur ∧ Clo t rows' (rows'.take a) ∧ (∀ k ∈ pre, nxt cur k ∈ rows') ∧ e = [some (dTr t, false), some (dSt s, false), some (.lst (rows'.map dSt), true), some (.int (a : Int), false), x4]) ⟨rfl, rows, _, fd, hcur, hc, by simp, rfl⟩ (fun pre k rest env b2 hd hi => ?_) fun env b2 hi => ?_
    · obtain ⟨rfl, rows', x4, fd', hc', hcl, hpre, rfl⟩ := hi
      have hk : k ∈ moves t cur := by rw [hd]; simp
      have hkl : k < cur.length := by unfold moves at hk; rw [List.mem_filter] at hk; simpa using hk.1
      have hcm : cur ∈ rows' := List.mem_of_getElem? hc'
      have hla := (List.getElem?_eq_some_iff.mp hc').1
      refine ⟨_, rfl, ?_⟩
      refine ife_app (!decide (nxt cur k ∈ rows')) ?_ (fun hp => ?_) (fun hp => ?_)
      · exact ⟨_, rfl, _, rfl, _, idx_mapl rows' dSt a cur hc', _, rfl, _, _, law_next_ok (n + 1) cur _ hl k hkl, _, rfl, _, nin_rows _ _, rfl, rfl⟩
      · have hnm : nxt cur k ∉ rows' := by simpa using hp
        have hfew := rows_few h fd'.nd fd'.ok
        refine ⟨_, rfl, _, rfl, _, idx_mapl rows' dSt a cur hc', _, rfl, _, _, law_next_ok (n + 1) cur _ hl k hkl, _, rfl, lt_size (by rw [List.length_map]; omega), ?_⟩
        refine ⟨rfl, rows' ++ [nxt cur k], some (dA k, false), fd'.add hcm hk hnm, ?_, ?_, ?_, ?_⟩
        · rw [List.getElem?_append_left hla]; exact hc'
        · rw [List.take_append_of_le_length (by omega)]
          exact hcl.more _
        · intro j hj
          rcases List.mem_append.mp hj with hj | hj
          · exact List.mem_append_left _ (hpre j hj)
          · rw [List.mem_singleton.mp hj]; simp
        · rw [List.map_append]; rfl
      · refine ⟨rfl, rows', _, fd', hc', hcl, fun j hj => ?_, rfl⟩
        rcases List.mem_append.mp hj with hj | hj
        · exact hpre j hj
        · rw [List.mem_singleton.mp hj]; simpa using hp
    · obtain ⟨rfl, rows', x4, fd', hc', hcl, hpre, rfl⟩ := hi
      have hlt' := (List.getElem?_eq_some_iff.mp hc').1
      have hfew := rows_few h fd'.nd fd'.ok
      refine ⟨_, rfl, _, rfl, (Nat.le_of_ble_eq_true rfl), m - 1, by omega, rfl, rows', a + 1, x4, fd', by omega, by omega, ?_, ?_⟩
      · intro u hu
        rw [List.take_succ, hc'] at hu
        rcases List.mem_append.mp hu with hu | hu
        · exact hcl u hu
        · simp at hu
          rw [hu]
          exact hpre
      · rfl
theorem sub_len {α : Type} [BEq α] [LawfulBEq α] : ∀ {W F : List α}, W.Nodup → (∀ x ∈ W, x ∈ F) → W.length ≤ F.length
  | [], _, _, _ => by simp
  | a :: W, F, hn, h => by
    rw [List.nodup_cons] at hn
    have h1 := sub_len (W := W) (F := F.erase a) hn.2 fun x hx => (List.mem_erase_of_ne (fun e => by rw [e] at hx; exact hn.1 hx)).mpr (h x (List.mem_cons_of_mem _ hx))
    rw [List.length_erase_of_mem (h a (by simp))] at h1
    have := List.length_pos_of_mem (h a (by simp))
    rw [List.length_cons]; omega
/-! ### the program's search -/
def toI (s : Sta) : List Int := s.map fun a : Nat => (a : Int)
theorem dSt_dI (s : Sta) : dSt s = dI (toI s) := by
  simp only [dSt, dI, toI, List.map_map]
  rfl
theorem toI_inj {s u : Sta} (h : toI s = toI u) : s = u := dSt_inj (by rw [dSt_dI, dSt_dI, h])
theorem mem_toI (s : Sta) (L : List Sta) : toI s ∈ L.map toI ↔ s ∈ L := by
  rw [List.mem_map]
  exact ⟨fun ⟨u, hu, e⟩ => toI_inj e ▸ hu, fun h => ⟨s, h, rfl⟩⟩
def leS (s u : Sta) : Bool := leI (toI s) (toI u)
theorem map_dSt (L : List Sta) : L.map dSt = (L.map toI).map dI := by
  rw [List.map_map]
  exact List.map_congr_left fun s _ => dSt_dI s
/-- the dict of states, each with True -/
def dDs (L : List Sta) : D := dDc (L.map toI)
theorem ninDs (s : Sta) (L : List Sta) : cmpD .NotIn (dSt s) (dDs L) = some (!decide (s ∈ L)) := by
  rw [dSt_dI, dDs, dDc, ninDct]
  simp only [mem_toI]
theorem inDs (s : Sta) (L : List Sta) : cmpD .In (dSt s) (dDs L) = some (decide (s ∈ L)) := by
  rw [dSt_dI, dDs, dDc, inDct]
  simp only [mem_toI]
theorem putDs (s : Sta) (L : List Sta) (h : s ∉ L) (hz : L.length < 100000) : putX (dDs L) (dSt s) (.bl true) = some (dDs (L ++ [s])) := by
  rw [dSt_dI, dDs, putDct _ _ (by simpa using hz), addK, if_neg (by rw [mem_toI]; exact h), dDs, List.map_append]
  rfl
theorem dsp1_dSt (s : Sta) : mthD .dsp1 (dSt s) [.bl true] = some (dDs [s]) := by
  rw [dSt_dI, dsp1_dI]; rfl
theorem sort_toI (L : List Sta) : (L.map toI).mergeSort leI = (L.mergeSort leS).map toI := (List.map_mergeSort (f := toI) (r := leS) (s := leI) fun a _ c _ => rfl).symm
theorem sortedDs (L : List Sta) (h : ∀ s ∈ L, s ≠ []) : biD .sorted [dDs L] = some (.lst ((L.mergeSort leS).map dSt)) := by
  rw [dDs, dDc, sortedDct, sort_toI, map_dSt]
  intro l hl
  obtain ⟨s, hs, rfl⟩ := List.mem_map.mp hl
  intro e
  exact h s hs (by simpa [toI] using e)
theorem sortedRows (L : List Sta) (h : ∀ s ∈ L, s ≠ []) : biD .sorted [.lst (L.map dSt)] = some (.lst ((L.mergeSort leS).map dSt)) := by
  rw [map_dSt, sortedLst, sort_toI, map_dSt]
  intro l hl
  obtain ⟨s, hs, rfl⟩ := List.mem_map.mp hl
  intro e
  exact h s hs (by simpa [toI] using e)
theorem sortS_same {L M : List Sta} (hp : L.Perm M) : L.mergeSort leS = M.mergeSort leS := by
  have h := sort_same (hp.map toI)
  rw [sort_toI, sort_toI] at h
  exact (List.map_inj_right (fun a c e => toI_inj e)).mp h
theorem mem_sortS {L : List Sta} {u : Sta} : u ∈ L.mergeSort leS ↔ u ∈ L := (List.mergeSort_perm L leS).mem_iff
theorem pop_last {L : List Sta} (s : Sta) : popD (.lst ((L ++ [s]).map dSt)) none = some (dSt s, .lst (L.map dSt)) := by
  simp [popD]
theorem Ok.ne {t : Tr} {s : Sta} (h : TOk t) (o : Ok t s) : s ≠ [] := by
  intro e
  have h1 := o.len
  have h2 := h.few
  rw [e] at h1
  simp at h1
  rw [h1] at h2
  simp at h2
theorem states_from_ok (n : Nat) (t : Tr) (s : Sta) (b : BS) (h : TOk t) (o : Ok t s) :
    ∃ rows, call (n + 3) 8 [dTr t, dSt s] b = some (.tup ((rows.mergeSort leS).map dSt), b) ∧ Fd t s rows ∧ ∀ u, u ∈ rows ↔ Reach t s u := by
  suffices q : ∃ d b', call (n + 3) 8 [dTr t, dSt s] b = some (d, b') ∧ b' = b ∧ ∃ rows, d = .tup ((rows.mergeSort leS).map dSt) ∧ Fd t s rows ∧ Clo t rows rows by
    obtain ⟨d, b', h1, rfl, rows, rfl, h2, h3⟩ := q
    exact ⟨rows, h1, h2, h2.all h3⟩
  refine cwp (n := n + 2) (g := 8) (fd := t_states_from.fd) rfl rfl [dTr t, dSt s] rfl b (fun d b' => b' = b ∧ ∃ rows, d = .tup ((rows.mergeSort leS).map dSt) ∧ Fd t s rows ∧ Clo t rows rows) ?_
  refine ⟨_, rfl, _, dsp1_dSt s, _, rfl, (Nat.le_of_ble_eq_true rfl), _, rfl, ?_⟩
  refine ⟨fun m e bb => bb = b ∧ ∃ F W x4 x5 x6, Fd t s F ∧ m + F.length = 1000 + W.length ∧ (∀ u ∈ W, u ∈ F) ∧ W.Nodup ∧ (∀ u ∈ F, u ∉ W → ∀ k ∈ moves t u, nxt u k ∈ F) ∧ e = [some (dTr t, false), some (dSt s, false), some (dDs F, true), some (.lst (W.map dSt), true), x4, x5, x6], 1000, by decide, ⟨rfl, [s], [s], none, none, none, .one o, rfl, fun u hu => hu, by simp, fun u hu hn => absurd hu hn, rfl⟩, ?_⟩
  intro m env bb hi
  obtain ⟨rfl, F, W, x4, x5, x6, fd, hm, hW, hWn, hc, rfl⟩ := hi
  rcases List.eq_nil_or_concat W with rfl | ⟨W', u, rfl⟩
  · refine ⟨_, rfl, _, rfl, fun _ => ?_, fun z => by cases z⟩
    refine ⟨_, rfl, _, sortedDs F (fun u hu => (fd.ok u hu).ne h), _, rfl, rfl, F, rfl, fd, fun u hu => hc u hu (by simp)⟩
  · rw [List.concat_eq_append] at *
    refine ⟨_, rfl, true, by simp [truD], (fun z => by cases z), fun _ => ?_⟩
    refine ⟨_, rfl, _, _, pop_last u, (Nat.le_of_ble_eq_true rfl), ?_⟩
    have hu : u ∈ F := hW u (by simp)
    have hu' : u ∉ W' := by
      rw [List.nodup_append] at hWn
      exact fun z => hWn.2.2 u z u (by simp) rfl
    have ou := fd.ok u hu
    have hl : u.length ≤ 100 := by have := ou.len; have := h.few; omega
    refine .inr ⟨_, rfl, _, rfl, _, _, can_move_ok n t u _ ou.len hl, _, rfl, ?_⟩
    refine for_pre (moves t u) dA (fun pre e bb2 => bb2 = bb ∧ ∃ F W x5 x6, Fd t s F ∧ m + F.length = 1001 + W.length ∧ (∀ u ∈ W, u ∈ F) ∧ W.Nodup ∧ u ∈ F ∧ u ∉ W ∧ (∀ v ∈ F, v ∉ W → v ≠ u → ∀ k ∈ moves t v, nxt v k ∈ F) ∧ (∀ k ∈ pre, nxt u k ∈ F) ∧ e = [some (dTr t, false), some (dSt s, false), some (dDs F, true), some (.lst (W.map dSt), true), some (dSt u, false), x5, x6])
      ⟨rfl, F, W', _, _, fd, by simp at hm; omega, fun v hv => hW v (by simp [hv]), (List.nodup_append.mp hWn).1, hu, hu', fun v hv h1 h2 => hc v hv (by simp [h1, h2]), by simp, rfl⟩ (fun pre k rest env b2 hd hi => ?_) fun env b2 hi => ?_
    · obtain ⟨rfl, F, W, x5, x6, fd, hm, hW, hWn, hu, hu', hc, hpre, rfl⟩ := hi
      have hk : k ∈ moves t u := by rw [hd]; simp
      have hkl : k < u.length := by unfold moves at hk; rw [List.mem_filter] at hk; simpa using hk.1
      have hfew := rows_few h fd.nd fd.ok
      have hfw : W.length ≤ F.length := by
        exact sub_len hWn hW
      refine ⟨_, rfl, ?_⟩
      refine ⟨_, rfl, _, rfl, _, rfl, _, _, state_behind_ok (n + 1) t u _ hl k hkl, (Nat.le_of_ble_eq_true rfl), ?_⟩
      refine ⟨_, rfl, _, rfl, _, ninDs _ _, _, rfl, fun hp => ?_, fun hp => ?_⟩
      · have hnm : nxt u k ∉ F := by simpa using hp
        refine ⟨_, rfl, _, rfl, _, putDs _ F hnm (by omega), ?_⟩
        refine ⟨_, rfl, _, rfl, lt_size (by rw [List.length_map]; omega), rfl, F ++ [nxt u k], W ++ [nxt u k], some (dA k, false), some (dSt (nxt u k), false), fd.add hu hk hnm, by simp; omega, ?_, ?_, by simp [hu], ?_, ?_, ?_, ?_⟩
        · intro v hv
          rcases List.mem_append.mp hv with hv | hv
          · exact List.mem_append_left _ (hW v hv)
          · exact List.mem_append_right _ hv
        · rw [List.nodup_append]
          refine ⟨hWn, by simp, fun x hx y hy => ?_⟩
          rw [List.mem_singleton.mp hy]
          exact fun e => hnm (e ▸ hW x hx)
        · intro z
          rcases List.mem_append.mp z with z | z
          · exact hu' z
          · rw [List.mem_singleton] at z
            exact hnm (z ▸ hu)
        · intro v hv h1 h2 j hj
          rcases List.mem_append.mp hv with hv | hv
          · exact List.mem_append_left _ (hc v hv (fun z => h1 (List.mem_append_left _ z)) h2 j hj)
          · exact absurd (List.mem_append_right _ hv) h1
        · intro j hj
          rcases List.mem_append.mp hj with hj | hj
          · exact List.mem_append_left _ (hpre j hj)
          · rw [List.mem_singleton.mp hj]; simp
        · rw [List.map_append]; rfl
      · refine ⟨rfl, F, W, _, _, fd, hm, hW, hWn, hu, hu', hc, fun j hj => ?_, rfl⟩
        rcases List.mem_append.mp hj with hj | hj
        · exact hpre j hj
        · rw [List.mem_singleton.mp hj]; simpa using hp
    · obtain ⟨rfl, F, W, x5, x6, fd, hm, hW, hWn, hu, hu', hc, hpre, rfl⟩ := hi
      have hfew := rows_few h fd.nd fd.ok
      refine ⟨m - 1, by omega, rfl, F, W, _, _, _, fd, by omega, hW, hWn, fun v hv h1 => ?_, rfl⟩
      by_cases e : v = u
      · rw [e]; exact hpre
      · exact hc v hv h1 e
end Lw

namespace Lw
open PySem PySem.Spec PyProof.Rows L2 En
/-! ### sums -/
theorem sum_set : ∀ (s : Sta) (k : Nat), k < s.length → (s.set k (s.getD k 0 + 1)).sum = s.sum + 1
  | [], _, h => by simp at h
  | a :: s, 0, _ => by simp; omega
  | a :: s, k + 1, h => by
    have := sum_set s k (by simpa using h)
    simp only [List.getD_cons_succ, List.set_cons_succ, List.sum_cons, this]
    omega
theorem sum_nxt (s : Sta) (k : Nat) (h : k < s.length) : (nxt s k).sum = s.sum + 1 := sum_set s k h
theorem le_sum : ∀ s l : List Nat, s.length = l.length → (∀ k, k < s.length → s.getD k 0 ≤ l.getD k 0) → s.sum ≤ l.sum ∧ (s.sum = l.sum → s = l)
  | [], [], _, _ => ⟨by simp, fun _ => rfl⟩
  | [], _ :: _, h, _ => by simp at h
  | _ :: _, [], h, _ => by simp at h
  | a :: s, c :: l, h, hk => by
    obtain ⟨h1, h2⟩ := le_sum s l (by simpa using h) fun k hk2 => by simpa using hk (k + 1) (by simpa using hk2)
    have h3 := hk 0 (by simp)
    simp only [List.getD_cons_zero] at h3
    simp only [List.sum_cons]
    refine ⟨by omega, fun e => ?_⟩
    have e1 : a = c := by omega
    rw [e1, h2 (by omega)]
/-- all roads' lengths -/
def ln (t : Tr) : Sta := t.map List.length
theorem ps_ln (t : Tr) (k : Nat) : ps (ln t) k = (rd t k).length := by
  unfold ps ln rd
  rw [List.getD_eq_getElem?_getD, List.getD_eq_getElem?_getD, List.getElem?_map]
  cases t[k]? <;> rfl
def tot (t : Tr) : Nat := (ln t).sum
theorem done_iff {t : Tr} {s : Sta} (o : Ok t s) : done t s = true ↔ s.sum = tot t := by
  have h := le_sum s (ln t) (by rw [ln, List.length_map]; exact o.len.symm) fun k hk => by
    have := o.le k hk
    rw [← ps_ln] at this
    exact this
  unfold done
  rw [List.all_eq_true]
  constructor
  · intro hd
    have e : s = ln t := by
      apply List.ext_getElem (by rw [ln, List.length_map]; exact o.len.symm)
      intro k h1 h2
      have h3 := hd k (by simpa using h1)
      simp only [decide_eq_true_eq] at h3
      rw [← ps_ln] at h3
      unfold ps at h3
      rw [List.getD_eq_getElem?_getD, List.getD_eq_getElem?_getD, List.getElem?_eq_getElem h1, List.getElem?_eq_getElem h2] at h3
      exact h3
    unfold tot
    rw [← e]
  · intro e k hk
    have e2 := h.2 e
    simp only [decide_eq_true_eq]
    rw [← ps_ln, ← e2]
theorem sum_le_tot {t : Tr} {s : Sta} (o : Ok t s) : s.sum ≤ tot t := (le_sum s (ln t) (by rw [ln, List.length_map]; exact o.len.symm) fun k hk => by
    have := o.le k hk
    rw [← ps_ln] at this
    exact this).1
theorem mem_moves_lt {t : Tr} {s : Sta} {k : Nat} (h : k ∈ moves t s) : k < s.length := by
  unfold moves at h; rw [List.mem_filter] at h; simpa using h.1
/-! ### safe states -/
def Safe (t : Tr) (u : Sta) : Prop := ∃ v, Reach t u v ∧ done t v = true
theorem Reach.head {t : Tr} {u v : Sta} (r : Reach t u v) : v = u ∨ ∃ k ∈ moves t u, Reach t (nxt u k) v := by
  induction r with
  | refl => exact .inl rfl
  | step r hk ih =>
    rcases ih with rfl | ⟨j, hj, h⟩
    · exact .inr ⟨_, hk, .refl⟩
    · exact .inr ⟨j, hj, .step h hk⟩
theorem safe_iff {t : Tr} {u : Sta} : Safe t u ↔ done t u = true ∨ ∃ k ∈ moves t u, Safe t (nxt u k) := by
  constructor
  · rintro ⟨v, r, d⟩
    rcases r.head with rfl | ⟨k, hk, h⟩
    · exact .inl d
    · exact .inr ⟨k, hk, v, h, d⟩
  · rintro (d | ⟨k, hk, v, r, d⟩)
    · exact ⟨u, .refl, d⟩
    · exact ⟨v, (Reach.one hk).trans r, d⟩
theorem done_no_moves {t : Tr} {u : Sta} (h : done t u = true) : moves t u = [] := by
  unfold moves
  rw [List.filter_eq_nil_iff]
  intro k hk
  unfold done at h
  rw [List.all_eq_true] at h
  have := h k hk
  simp only [decide_eq_true_eq] at this
  unfold mv lv
  rw [this]
  simp
open Classical in
noncomputable def sf (t : Tr) (u : Sta) : Bool := decide (Safe t u)
theorem sf_iff {t : Tr} {u : Sta} : sf t u = true ↔ Safe t u := by unfold sf; simp
noncomputable def fit (t : Tr) (u : Sta) : List Nat := (moves t u).filter fun k => sf t (nxt u k)
/-- the first row of moves -/
noncomputable def gp (t : Tr) : Nat → Sta → List Nat
  | 0, _ => []
  | m + 1, u => match fit t u with
    | [] => []
    | k :: _ => k :: gp t m (nxt u k)
theorem fit_ne {t : Tr} {u : Sta} (h : Safe t u) (hd : done t u = false) : ∃ k r, fit t u = k :: r := by
  rcases safe_iff.mp h with h | ⟨k, hk, h⟩
  · rw [hd] at h; cases h
  · have : k ∈ fit t u := List.mem_filter.mpr ⟨hk, sf_iff.mpr h⟩
    cases e : fit t u with
    | nil => rw [e] at this; cases this
    | cons k r => exact ⟨k, r, rfl⟩
theorem fit_mem {t : Tr} {u : Sta} {k : Nat} (h : k ∈ fit t u) : k ∈ moves t u ∧ Safe t (nxt u k) := by
  unfold fit at h
  rw [List.mem_filter] at h
  exact ⟨h.1, sf_iff.mp h.2⟩
theorem ife_k {cl : Calls} {W : Nat} {c : CE} {s1 s2 : List CS} {env : En.Env} {b : BS} {Q : Fl × En.Env × BS → Prop} (k : Bool) (h : we cl c env b fun x b' => x = .bl k ∧ b' = b) (ht : k = true → wss cl W s1 (frzE (sk c) env) b (fun r => match r with
    | (.nxt, e, b') => Q (.nxt, e, b')
    | (.brk, e, b') => Q (.brk, e, b')
    | (.cnt, e, b') => Q (.cnt, e, b')
    | (.ret d, e, b') => Q (.ret d, e, b')))
    (hf : k = false → wss cl W s2 (frzE (sk c) env) b (fun r => match r with
    | (.nxt, e, b') => Q (.nxt, e, b')
    | (.brk, e, b') => Q (.brk, e, b')
    | (.cnt, e, b') => Q (.cnt, e, b')
    | (.ret d, e, b') => Q (.ret d, e, b'))) : wss cl W [.ife c s1 s2] env b Q := by
  refine we_mono c env b _ _ (fun x b' ⟨h1, h2⟩ => ?_) h
  subst h1 h2
  exact ⟨k, rfl, fun hk => ht hk, fun hk => hf hk⟩
/-- descending sums -/
def gtS (a c : Sta) : Bool := decide (c.sum ≤ a.sum)
theorem sum_toI : ∀ s : Sta, (toI s).sum = (s.sum : Int)
  | [] => rfl
  | a :: s => by
    have := sum_toI s
    simp only [toI] at this
    simp only [toI, List.map_cons, List.sum_cons, this]
    omega
theorem skeyS (R : List Sta) : mthD .skey (.tup (R.map dSt)) [] = some (.lst ((R.mergeSort gtS).map dSt)) := by
  rw [map_dSt, skey_dI, map_dSt]
  congr 3
  exact (List.map_mergeSort (f := toI) (r := gtS) (s := fun a c => decide (c.sum ≤ a.sum)) fun a _ c _ => by
    unfold gtS
    simp only [sum_toI]
    congr 1
    exact propext (by omega)).symm
theorem gtS_sorted (R : List Sta) : (R.mergeSort gtS).Pairwise fun a c => c.sum ≤ a.sum := by
  have := List.pairwise_mergeSort (le := gtS) (fun a b c h1 h2 => by unfold gtS at *; simp only [decide_eq_true_eq] at *; omega) (fun a b => by unfold gtS; simp only [Bool.or_eq_true, decide_eq_true_eq]; omega) R
  exact this.imp fun h => by simpa [gtS] using h
theorem safe_states_ok (n : Nat) (t : Tr) (s : Sta) (b : BS) (h : TOk t) (o : Ok t s) :
    ∃ S, call (n + 4) 9 [dTr t, dSt s] b = some (dDs S, b) ∧ ∀ u, u ∈ S ↔ Reach t s u ∧ Safe t u := by
  suffices q : ∃ d b', call (n + 4) 9 [dTr t, dSt s] b = some (d, b') ∧ b' = b ∧ ∃ S, d = dDs S ∧ ∀ u, u ∈ S ↔ Reach t s u ∧ Safe t u by
    obtain ⟨d, b', h1, rfl, S, rfl, h2⟩ := q
    exact ⟨S, h1, h2⟩
  obtain ⟨rows, e1, fd, ha⟩ := states_from_ok n t s b h o
  refine cwp (n := n + 3) (g := 9) (fd := t_safe_states.fd) rfl rfl [dTr t, dSt s] rfl b (fun d b' => b' = b ∧ ∃ S, d = dDs S ∧ ∀ u, u ∈ S ↔ Reach t s u ∧ Safe t u) ?_
  refine ⟨_, rfl, _, rfl, _, _, e1, (Nat.le_of_ble_eq_true rfl), ⟨rfl, (Nat.le_of_ble_eq_true rfl), rfl⟩, (Nat.le_of_ble_eq_true rfl), ?_⟩
  refine .inr ⟨_, rfl, _, skeyS _, _, rfl, ?_⟩
  generalize hO : (rows.mergeSort leS).mergeSort gtS = O
  have hp : O.Perm rows := by rw [← hO]; exact (List.mergeSort_perm _ gtS).trans (List.mergeSort_perm rows leS)
  have hs : O.Pairwise fun a c => c.sum ≤ a.sum := by rw [← hO]; exact gtS_sorted _
  have hn : O.Nodup := hp.nodup_iff.mpr fd.nd
  refine for_pre O dSt (fun pre e bb => bb = b ∧ ∃ S x4 x5 x6 x7, (∀ u, u ∈ S ↔ u ∈ pre ∧ Safe t u) ∧ S.length ≤ pre.length ∧ e = [some (dTr t, false), some (dSt s, false), some (.tup ((rows.mergeSort leS).map dSt), false), some (dDs S, true), x4, x5, x6, x7]) ⟨rfl, [], none, none, none, none, by simp, by simp, rfl⟩ (fun pre u rest env bb hd hi => ?_) fun env bb hi => ?_
  · obtain ⟨rfl, S, x4, x5, x6, x7, hS, hSl, rfl⟩ := hi
    have hu : u ∈ rows := hp.mem_iff.mp (by rw [hd]; simp)
    have ou := fd.ok u hu
    have hl : u.length ≤ 100 := by have := ou.len; have := h.few; omega
    have hml := moves_len t u
    have key : ∀ k ∈ moves t u, (nxt u k ∈ S ↔ Safe t (nxt u k)) := fun k hk => by
      rw [hS]
      refine ⟨fun z => z.2, fun z => ⟨?_, z⟩⟩
      have h1 : nxt u k ∈ O := hp.mem_iff.mpr ((ha _).mpr (.step ((ha u).mp hu) hk))
      rw [hd, List.mem_append, List.mem_cons] at h1
      have h2 := sum_nxt u k (mem_moves_lt hk)
      rcases h1 with h1 | h1 | h1
      · exact h1
      · rw [h1] at h2; omega
      · rw [hd, List.pairwise_append, List.pairwise_cons] at hs
        have := hs.2.1.1 _ h1
        omega
    have hnS : u ∉ S := fun z => by
      have := ((hS u).mp z).1
      rw [hd, List.nodup_append] at hn
      exact hn.2.2 u this u (by simp) rfl
    have hfew := rows_few h fd.nd fd.ok
    have hpl : pre.length ≤ 512 := by
      have := congrArg List.length hd
      rw [List.length_append, hp.length_eq] at this
      omega
    refine ⟨_, rfl, ?_⟩
    refine .inr ⟨_, rfl, _, rfl, _, _, can_move_ok (n + 1) t u _ ou.len hl, _, rfl, ?_⟩
    refine lc_map (cl := ⟨call (n + 3), conOf C⟩) (moves t u) dA (fun k => dSt (nxt u k)) (fun k hk => ?_) (le_size (by omega)) ?_
    · exact ⟨_, rfl, _, rfl, _, rfl, _, rfl, _, _, state_behind_ok (n + 2) t u _ hl k (mem_moves_lt hk), rfl, rfl⟩
    refine ⟨(Nat.le_of_ble_eq_true rfl), ?_⟩
    have hadd : Safe t u → ∀ v, v ∈ S ++ [u] ↔ v ∈ pre ++ [u] ∧ Safe t v := fun hsf v => by
      rw [List.mem_append, List.mem_append, List.mem_singleton, hS v]
      constructor
      · rintro (⟨z1, z2⟩ | rfl)
        · exact ⟨.inl z1, z2⟩
        · exact ⟨.inr rfl, hsf⟩
      · rintro ⟨z1 | z1, z2⟩
        · exact .inl ⟨z1, z2⟩
        · exact .inr z1
    refine ife_k (done t u || (moves t u).any fun k => decide (nxt u k ∈ S)) ?_ (fun hp1 => ?_) (fun hp1 => ?_)
    · refine ⟨_, rfl, _, rfl, _, _, is_through_ok (n + 2) t u _ ou.len hl, _, rfl, ?_⟩
      cases hdn : done t u with
      | true => exact br_f rfl ⟨by simp, rfl⟩
      | false =>
        refine br_t rfl ?_
        refine .inr ⟨_, rfl, _, rfl, ?_⟩
        refine lc_map (cl := ⟨call (n + 3), conOf C⟩) (moves t u) (fun k => dSt (nxt u k)) (fun k => .bl (decide (nxt u k ∈ S))) (fun k hk => ?_) (le_size (by omega)) ?_
        · exact ⟨_, rfl, _, rfl, _, rfl, _, inDs _ _, rfl, rfl⟩
        · exact ⟨_, any_map (moves t u) _, by simp, rfl⟩
    · have hsf : Safe t u := by
        rw [Bool.or_eq_true, List.any_eq_true] at hp1
        refine safe_iff.mpr (hp1.imp id fun ⟨k, hk, h2⟩ => ⟨k, hk, (key k hk).mp (by simpa using h2)⟩)
      refine ⟨_, rfl, _, rfl, _, putDs u S hnS (by omega), rfl, S ++ [u], _, _, _, _, hadd hsf, by simp; omega, rfl⟩
    · refine ⟨rfl, S, _, _, _, _, fun v => ?_, by simp; omega, rfl⟩
      have hns : ¬ Safe t u := fun z => by
        rw [Bool.or_eq_false_iff, List.any_eq_false] at hp1
        rcases safe_iff.mp z with z | ⟨k, hk, z⟩
        · rw [hp1.1] at z; cases z
        · have := hp1.2 k hk
          simp only [decide_eq_true_eq] at this
          exact this ((key k hk).mpr z)
      rw [hS v, List.mem_append, List.mem_singleton]
      refine ⟨fun z => ⟨.inl z.1, z.2⟩, fun z => ⟨z.1.resolve_right fun e => hns (e ▸ z.2), z.2⟩⟩
  · obtain ⟨rfl, S, x4, x5, x6, x7, hS, hSl, rfl⟩ := hi
    exact ⟨_, rfl, rfl, S, rfl, fun u => by rw [hS u, hp.mem_iff, ha u]⟩
end Lw

namespace Lw
open PySem PySem.Spec PyProof.Rows L2 En
theorem gp_len {t : Tr} : ∀ (m : Nat) (u : Sta), Ok t u → Safe t u → tot t - u.sum = m → (gp t m u).length = m
  | 0, _, _, _, _ => rfl
  | m + 1, u, o, hs, e => by
    have hd : done t u = false := by
      cases h : done t u with
      | false => rfl
      | true => rw [done_iff o] at h; omega
    obtain ⟨k, r, hf⟩ := fit_ne hs hd
    have hk := fit_mem (by rw [hf]; exact List.mem_cons_self : k ∈ fit t u)
    have h2 := sum_nxt u k (mem_moves_lt hk.1)
    simp only [gp, hf, List.length_cons]
    rw [gp_len m (nxt u k) (o.nxt hk.1) hk.2 (by omega)]
theorem fit_eq {t : Tr} {s u : Sta} {S : List Sta} (hS : ∀ u, u ∈ S ↔ Reach t s u ∧ Safe t u) (r : Reach t s u) : ((moves t u).filter fun k => decide (nxt u k ∈ S)) = fit t u := by
  unfold fit
  refine List.filter_congr fun k hk => ?_
  rw [Bool.eq_iff_iff, sf_iff, decide_eq_true_eq, hS]
  exact ⟨fun z => z.2, fun z => ⟨.step r hk, z⟩⟩
theorem tot_le {t : Tr} (h : TOk t) : tot t ≤ 12 := by
  have h1 := h.few
  have h2 : ∀ r ∈ t, r.length ≤ 4 := fun r hr => (h.short r hr).2
  clear h
  unfold tot ln
  match t, h1 with
  | [], h1 => simp
  | [a], _ =>
    have := h2 a (by simp)
    simp; omega
  | [a, c], _ =>
    have := h2 a (by simp)
    have := h2 c (by simp)
    simp; omega
  | [a, c, d], _ =>
    have := h2 a (by simp)
    have := h2 c (by simp)
    have := h2 d (by simp)
    simp; omega
  | _ :: _ :: _ :: _ :: _, h1 => simp at h1
theorem safe_moves_ok (n : Nat) (t : Tr) (s : Sta) (b : BS) (h : TOk t) (o : Ok t s) :
    call (n + 5) 10 [dTr t, dSt s] b = some (if sf t s = true then .tup ((gp t (tot t - s.sum) s).map dA) else .non, b) := by
  obtain ⟨S, e1, hS⟩ := safe_states_ok n t s b h o
  refine call_eq (fd := t_safe_moves.fd) rfl rfl _ rfl _ _ _ ?_
  have hsS : decide (s ∈ S) = sf t s := by
    rw [Bool.eq_iff_iff, sf_iff, decide_eq_true_eq, hS]
    exact ⟨fun z => z.2, fun z => ⟨.refl, z⟩⟩
  have htot := tot_le h
  refine ⟨_, rfl, _, rfl, _, _, e1, (Nat.le_of_ble_eq_true rfl), _, rfl, ?_⟩
  refine ⟨_, rfl, _, rfl, _, ninDs s S, _, rfl, fun hp => ?_, fun hp => ?_⟩
  · rw [hsS] at hp
    have hp : sf t s = false := by simpa using hp
    rw [if_neg (by rw [hp]; decide)]
    exact ⟨rfl, rfl⟩
  · rw [hsS] at hp
    have hp : sf t s = true := by simpa using hp
    rw [if_pos hp]
    refine ⟨fun m e bb => bb = b ∧ ∃ u ms x4 x5, Reach t s u ∧ Safe t u ∧ m = tot t - u.sum ∧ ms ++ gp t (tot t - u.sum) u = gp t (tot t - s.sum) s ∧ e = [some (dTr t, false), some (dSt u, false), some (dDs S, false), some (.lst (ms.map dA), true), x4, x5], tot t - s.sum, Nat.lt_of_le_of_lt (show tot t - s.sum ≤ 12 by omega) (by decide), ⟨rfl, s, [], none, none, .refl, sf_iff.mp hp, rfl, rfl, rfl⟩, ?_⟩
    intro m env bb hi
    obtain ⟨rfl, u, ms, x4, x5, hr, hsf, hm, hg, rfl⟩ := hi
    have ou := hr.ok o
    have hl : u.length ≤ 100 := by have := ou.len; have := h.few; omega
    have hml := moves_len t u
    refine ⟨_, rfl, _, rfl, _, _, is_through_ok (n + 3) t u _ ou.len hl, _, rfl, _, rfl, fun hk => ?_, fun hk => ?_⟩
    · have hd : done t u = true := by simpa using hk
      rw [done_iff ou] at hd
      have : tot t - u.sum = 0 := by omega
      rw [this] at hg
      simp only [gp, List.append_nil] at hg
      exact ⟨_, rfl, _, rfl, by rw [hg], rfl⟩
    · have hd : done t u = false := by simpa using hk
      have hlt : u.sum < tot t := by
        have h1 := sum_le_tot ou
        have h2 : ¬ u.sum = tot t := fun z => by rw [(done_iff ou).mpr z] at hd; cases hd
        omega
      obtain ⟨k, r, hf⟩ := fit_ne hsf hd
      have hk := fit_mem (by rw [hf]; exact List.mem_cons_self : k ∈ fit t u)
      have hkl := mem_moves_lt hk.1
      have hsum := sum_nxt u k hkl
      refine .inr ⟨_, rfl, _, rfl, _, _, can_move_ok (n + 2) t u _ ou.len hl, _, rfl, ?_⟩
      refine lc_filter (cl := ⟨call (n + 4), conOf C⟩) (moves t u) dA dA (fun k => decide (nxt u k ∈ S)) (fun j hj => ?_) (le_size (by omega)) ?_
      · exact ⟨_, rfl, _, rfl, _, rfl, _, rfl, _, _, state_behind_ok (n + 3) t u _ hl j (mem_moves_lt hj), _, rfl, _, inDs _ _, _, rfl, rfl, rfl, fun _ => ⟨_, rfl, rfl, rfl⟩⟩
      rw [fit_eq hS hr]
      refine ⟨_, idx_mapl (fit t u) dA 0 k (by rw [hf]; rfl), (Nat.le_of_ble_eq_true rfl), ?_⟩
      have hml2 : ms.length ≤ 12 := by
        have h1 := congrArg List.length hg
        rw [List.length_append, gp_len _ s o (sf_iff.mp hp) rfl] at h1
        omega
      refine ⟨_, rfl, _, rfl, lt_size (by rw [List.length_map]; omega), ?_⟩
      rw [show ms.map dA ++ [dA k] = (ms ++ [k]).map dA by rw [List.map_append]; rfl]
      refine ⟨_, rfl, _, rfl, _, rfl, _, _, state_behind_ok (n + 3) t u _ hl k hkl, (Nat.le_of_ble_eq_true rfl), ?_⟩
      refine ⟨tot t - (nxt u k).sum, by omega, rfl, nxt u k, ms ++ [k], _, _, .step hr hk.1, hk.2, rfl, ?_, rfl⟩
      · rw [← hg]
        have e2 : tot t - u.sum = (tot t - (nxt u k).sum) + 1 := by omega
        rw [e2]
        simp only [gp, hf, List.append_assoc, List.singleton_append]
end Lw

namespace Lw
open PySem PySem.Spec PyProof.Rows L2 En
structure ROk (r : List Int) : Prop where
  ne : 1 ≤ r.length
  rng : ∀ i ∈ r, 0 ≤ i ∧ i ≤ 9
  stp : ∀ i, i + 1 < r.length → r.getD i 0 ≠ r.getD (i + 1) 0
structure TrOk (t : Tr) : Prop where
  few : 1 ≤ t.length ∧ t.length ≤ 3
  road : ∀ r ∈ t, ROk r ∧ r.length ≤ 4
  heads : (t.map fun r => r.getD 0 0).Nodup
theorem TrOk.tok {t : Tr} (h : TrOk t) : TOk t := ⟨h.few, fun r hr => ⟨(h.road r hr).1.ne, (h.road r hr).2⟩⟩
theorem pop_ints (hs : List Int) (j : Nat) (h : j < hs.length) (hz : hs.length ≤ 1000) : popD (.lst (hs.map .int)) (some (j : Int)) = some (.int (hs.getD j 0), .lst ((hs.eraseIdx j).map .int)) := by
  have e : seqIndex? (j : Int) (hs.map D.int).length = some j := by
    rw [List.length_map]
    unfold seqIndex?
    simp
    omega
  simp only [popD]
  rw [if_pos ⟨by omega, by omega⟩, e]
  simp only [List.getElem?_map, List.getElem?_eq_getElem h, Option.map_some]
  rw [List.getD_eq_getElem?_getD, List.getElem?_eq_getElem h]
  congr 2
  rw [List.eraseIdx_eq_take_drop_succ, List.eraseIdx_eq_take_drop_succ, List.map_append, List.map_take, List.map_drop]
theorem erase_of {hs : List Int} (hd : hs.Nodup) (j : Nat) (h : j < hs.length) : (hs.eraseIdx j).Nodup ∧ (hs.eraseIdx j).length = hs.length - 1 ∧ (∀ x ∈ hs.eraseIdx j, x ∈ hs) ∧ hs.getD j 0 ∈ hs ∧ hs.getD j 0 ∉ hs.eraseIdx j := by
  have e : hs = hs.take j ++ hs.getD j 0 :: hs.drop (j + 1) := by
    rw [List.getD_eq_getElem?_getD, List.getElem?_eq_getElem h]
    show hs = hs.take j ++ hs[j] :: hs.drop (j + 1)
    rw [← List.drop_eq_getElem_cons h, List.take_append_drop]
  have e2 : hs.eraseIdx j = hs.take j ++ hs.drop (j + 1) := List.eraseIdx_eq_take_drop_succ ..
  generalize hs.getD j 0 = x at e ⊢
  have hd2 := hd
  rw [e, List.nodup_append, List.nodup_cons] at hd2
  obtain ⟨d1, ⟨d2, d3⟩, d4⟩ := hd2
  refine ⟨?_, by rw [List.length_eraseIdx, if_pos h], fun y hy => List.mem_of_mem_eraseIdx hy, by rw [e]; simp, ?_⟩
  · rw [e2, List.nodup_append]
    exact ⟨d1, d3, fun a ha b hb => d4 a ha b (List.mem_cons_of_mem _ hb)⟩
  · rw [e2, List.mem_append]
    rintro (h1 | h1)
    · exact d4 x h1 x (by simp) rfl
    · exact d2 h1
theorem ROk.app {r : List Int} (h : ROk r) {z : Int} (hz : 0 ≤ z ∧ z ≤ 9) (hne : r.getLast? ≠ some z) : ROk (r ++ [z]) := by
  refine ⟨by simp, fun i hi => ?_, fun i hi => ?_⟩
  · rcases List.mem_append.mp hi with hi | hi
    · exact h.rng i hi
    · rw [List.mem_singleton.mp hi]; exact hz
  · rw [List.length_append, List.length_singleton] at hi
    by_cases h1 : i + 1 < r.length
    · have := h.stp i h1
      simp only [List.getD_eq_getElem?_getD] at this ⊢
      rw [List.getElem?_append_left (by omega), List.getElem?_append_left h1]
      exact this
    · have e : i + 1 = r.length := by omega
      have h2 : i < r.length := by omega
      simp only [List.getD_eq_getElem?_getD]
      rw [List.getElem?_append_left h2, List.getElem?_append_right (by omega), e, Nat.sub_self]
      rw [List.getLast?_eq_getElem?, show r.length - 1 = i by omega, List.getElem?_eq_getElem h2] at hne
      rw [List.getElem?_eq_getElem h2]
      intro e2
      exact hne (congrArg some e2)
theorem idx_lastI (l : List Int) (k : Int) (h : l.getLast? = some k) : idxD (.lst (l.map .int)) (.int (-1)) = some (.int k) := by
  have hne : l ≠ [] := fun e => by rw [e] at h; cases h
  have hl : 0 < l.length := List.length_pos_iff.mpr hne
  rw [List.getLast?_eq_getElem?] at h
  simp only [idxD, atI]
  have e : ixN (l.map D.int).length (-1) = some (l.length - 1) := by
    unfold ixN
    simp
    omega
  rw [e]
  simp only [List.getElem?_map, h]
  simp [h]
theorem range_split {c : Nat} {pre rest : List Nat} {a : Nat} (h : List.range c = pre ++ a :: rest) : a = pre.length ∧ a < c := by
  have h1 : (List.range c)[pre.length]? = some a := by rw [h]; simp
  rw [List.getElem?_eq_some_iff] at h1
  obtain ⟨h2, h3⟩ := h1
  simp at h2 h3
  omega
theorem law_traffic_ok (n : Nat) (b : BS) (hb : BOk b) : ∃ d b', call (n + 2) 21 [.box] b = some (d, b') ∧ BOk b' ∧ ∃ t, d = dTr t ∧ TrOk t := by
  refine cwp (n := n + 1) (g := 21) (fd := t__law_traffic.fd) rfl rfl [.box] rfl b (fun d b' => BOk b' ∧ ∃ t, d = dTr t ∧ TrOk t) ?_
  have hlr : mthD .lrange (.int 10) [] = some (.lst (([0, 1, 2, 3, 4, 5, 6, 7, 8, 9] : List Int).map .int)) := rfl
  refine ⟨_, hlr, (Nat.le_of_ble_eq_true rfl), _, rfl, ?_⟩
  obtain ⟨v0, b0, e0, h00, h01, hb0⟩ := call_draw n hb 4 (by omega) (by omega)
  refine ⟨_, rfl, _, _, e0, _, rfl, (Nat.le_of_ble_eq_true rfl), ?_⟩
  obtain ⟨c, b1, e1, hc0, hc1, hb1⟩ := call_draw n hb0 3 (by omega) (by omega)
  obtain ⟨cn, rfl⟩ := Int.eq_ofNat_of_zero_le hc0
  refine .inr ⟨_, rfl, _, _, e1, _, rfl, _, (by rw [show (1 : Int) + (cn : Int) = ((1 + cn : Nat) : Int) by omega]; exact nat_rng (1 + cn) (by omega)), ?_⟩
  refine for_pre (List.range (1 + cn)) (fun i : Nat => .int (i : Int)) (fun pre e bb => BOk bb ∧ ∃ (hs : List Int) (rs : Tr) (x4 x5 x6 x7 x8 : Option (D × Bool)), hs.length + pre.length = 10 ∧ hs.Nodup ∧ (∀ h ∈ hs, 0 ≤ h ∧ h ≤ 9) ∧ rs.length = pre.length ∧ (∀ r ∈ rs, ROk r ∧ r.length ≤ 4) ∧ (rs.map fun r => r.getD 0 0).Nodup ∧ (∀ r ∈ rs, r.getD 0 0 ∉ hs) ∧
    e = [some (.box, false), some (.lst (hs.map .int), true), some (.lst (rs.map dR), true), some (.int (4 + v0), false), x4, x5, x6, x7, x8]) ⟨hb1, [0, 1, 2, 3, 4, 5, 6, 7, 8, 9], [], none, none, none, none, none, rfl, by decide, by decide, rfl, by simp, by simp, by simp, rfl⟩ (fun pre a rest env bb hd hi => ?_) fun env bb hi => ?_
  · obtain ⟨hbb, hs, rs, x4, x5, x6, x7, x8, hl, hnd, hrg, hrl, hro, hhd, hdis, rfl⟩ := hi
    obtain ⟨ha, hac⟩ := range_split hd
    refine ⟨_, rfl, ?_⟩
    obtain ⟨v, b2, e2, h20, h21, hb2⟩ := call_draw n hbb (4 + v0 - (a : Int)) (by omega) (by omega)
    obtain ⟨j, rfl⟩ := Int.eq_ofNat_of_zero_le h20
    have hj : j < hs.length := by omega
    obtain ⟨p1, p2, p3, p4, p5⟩ := erase_of hnd j hj
    refine ⟨_, rfl, _, rfl, _, rfl, _, rfl, _, _, e2, _, rfl, _, rfl, _, _, pop_ints hs j hj (by omega), (Nat.le_of_ble_eq_true rfl), ?_⟩
    generalize hhv : hs.getD j 0 = hv at p4 p5 ⊢
    refine ⟨_, rfl, (Nat.le_of_ble_eq_true rfl), (Nat.le_of_ble_eq_true rfl), ?_⟩
    obtain ⟨sn, b3, e3, h30, h31, hb3⟩ := call_draw n hb2 4 (by omega) (by omega)
    obtain ⟨sm, rfl⟩ := Int.eq_ofNat_of_zero_le h30
    refine .inr ⟨_, rfl, _, _, e3, _, nat_rng sm (by omega), ?_⟩
    refine for_pre (List.range sm) (fun i : Nat => .int (i : Int)) (fun q e b4 => BOk b4 ∧ ∃ (r : List Int) (x7 x8 : Option (D × Bool)), ROk r ∧ r.length ≤ q.length + 1 ∧ r.getD 0 0 = hv ∧
      e = [some (.box, false), some (.lst ((hs.eraseIdx j).map .int), true), some (.lst (rs.map dR), true), some (.int (4 + v0), false), some (.int (a : Int), false), some (.int hv, false), some (.lst (r.map .int), true), x7, x8]) ⟨hb3, [hv], _, _, ⟨by simp, fun i hi => by rw [List.mem_singleton.mp hi]; exact hrg _ p4, fun i hi => by simp at hi⟩, by simp, rfl, rfl⟩ (fun q s2 rest2 env b4 hd2 hi => ?_) fun env b4 hi => ?_
    · obtain ⟨hb4, r, x7, x8, ro, rl, rh, rfl⟩ := hi
      refine ⟨_, rfl, ?_⟩
      obtain ⟨z, b5, e5, h50, h51, hb5⟩ := call_draw n hb4 (4 + v0) (by omega) (by omega)
      have hne : r ≠ [] := fun e => by have := ro.ne; rw [e] at this; simp at this
      obtain ⟨l, hl2⟩ : ∃ l, r.getLast? = some l := by
        cases h : r.getLast? with
        | none => exact absurd (List.getLast?_eq_none_iff.mp h) hne
        | some l => exact ⟨l, rfl⟩
      have hq : q.length < 4 := by
        have := range_split hd2
        omega
      refine ⟨_, rfl, _, rfl, _, _, e5, (Nat.le_of_ble_eq_true rfl), ?_⟩
      refine ife_app (!decide (z = l)) ?_ (fun hp => ?_) (fun hp => ?_)
      · exact ⟨_, rfl, _, rfl, _, rfl, _, idx_lastI r l hl2, _, ne_cmp _ _ _ 1 (Nat.le_of_ble_eq_true rfl) trivial trivial (by simp), rfl, rfl⟩
      · have hzl : z ≠ l := by simpa using hp
        refine ⟨_, rfl, _, rfl, lt_size (by rw [List.length_map]; omega), hb5, r ++ [z], some (.int (s2 : Int), false), some (.int z, false), ro.app ⟨by omega, by omega⟩ (by rw [hl2]; intro e; cases e; exact hzl rfl), by simp; omega, ?_, ?_⟩
        · rw [← rh]
          simp only [List.getD_eq_getElem?_getD]
          rw [List.getElem?_append_left (by have := ro.ne; omega)]
        · rw [List.map_append]; rfl
      · exact ⟨hb5, r, _, _, ro, by simp; omega, rh, rfl⟩
    · obtain ⟨hb4, r, x7, x8, ro, rl, rh, rfl⟩ := hi
      have hrl4 : r.length ≤ 4 := by rw [List.length_range] at rl; omega
      refine ⟨_, rfl, _, rfl, _, rfl, lt_size (by rw [List.length_map]; omega), hb4, hs.eraseIdx j, rs ++ [r], some (.int (a : Int), false), some (.int hv, false), some (.lst (r.map .int), true), x7, x8, by simp; omega, p1, fun h hh => hrg h (p3 h hh), by simp [hrl], fun x hx => ?_, ?_, fun x hx => ?_, ?_⟩
      · rcases List.mem_append.mp hx with hx | hx
        · exact hro x hx
        · rw [List.mem_singleton.mp hx]; exact ⟨ro, hrl4⟩
      · rw [List.map_append, List.nodup_append]
        refine ⟨hhd, by simp, fun x hx y hy => ?_⟩
        obtain ⟨r2, hr2, rfl⟩ := List.mem_map.mp hx
        simp only [List.map_cons, List.map_nil, List.mem_singleton] at hy
        rw [hy, rh]
        exact fun e => hdis r2 hr2 (e ▸ p4)
      · rcases List.mem_append.mp hx with hx | hx
        · exact fun hm => hdis x hx (p3 _ hm)
        · rw [List.mem_singleton.mp hx, rh]; exact p5
      · rw [List.map_append]; rfl
  · obtain ⟨hbb, hs, rs, x4, x5, x6, x7, x8, hl, hnd, hrg, hrl, hro, hhd, hdis, rfl⟩ := hi
    rw [List.length_range] at hrl
    exact ⟨_, rfl, _, rfl, hbb, rs, rfl, ⟨by omega, hro, hhd⟩⟩
def s0 (t : Tr) : Sta := List.replicate t.length 0
theorem zeros (t : Tr) (h : t.length ≤ 100) : binD .Mult (.tup [.int 0]) (.int (t.length : Int)) = some (dSt (s0 t)) := by
  rw [mulT1 _ _ (by omega) (by omega), dSt, s0, List.map_replicate]; rfl
theorem ps_s0 (t : Tr) (k : Nat) : ps (s0 t) k = 0 := by
  unfold ps s0
  rw [List.getD_eq_getElem?_getD, List.getElem?_replicate]
  split <;> rfl
theorem Ok_s0 {t : Tr} (h : TrOk t) : Ok t (s0 t) := by
  have hl : (s0 t).length = t.length := by simp [s0]
  refine ⟨hl.symm, fun k hk => by rw [ps_s0]; omega, fun i j hi hj hij _ _ e => ?_⟩
  rw [hl] at hi hj
  unfold blk at e
  rw [ps_s0, ps_s0] at e
  have hd := h.heads
  rw [List.nodup_iff_pairwise_ne, List.pairwise_iff_getElem] at hd
  have key : ∀ a c, a < c → c < t.length → (rd t a).getD 0 0 ≠ (rd t c).getD 0 0 := by
    intro a c hac hc
    have := hd a c (by simp; omega) (by simpa using hc) hac
    simp only [List.getElem_map] at this
    unfold rd
    rw [List.getD_eq_getElem?_getD (l := t), List.getD_eq_getElem?_getD (l := t), List.getElem?_eq_getElem hc, List.getElem?_eq_getElem (show a < t.length by omega)]
    exact this
  rcases Nat.lt_or_gt_of_ne hij with h1 | h1
  · exact key i j h1 hj e
  · exact key j i h1 hi e.symm
end Lw

namespace Lw
open PySem PySem.Spec PyProof.Rows L2 En
/-- a number from lo to hi -/
def numB (lo hi : Int) : D → Bool
  | .int i => decide (lo ≤ i) && decide (i ≤ hi)
  | _ => false
theorem is_number_ok (n m : Nat) (d : D) (lo hi : Int) (b : BS) (h : Smp (m + 1) d) : call (n + 1) 0 [d, .int lo, .int hi] b = some (.bl (numB lo hi d), b) := by
  refine call_eq (fd := t_is_number.fd) rfl rfl _ rfl _ _ _ ?_
  cases d with
  | int i =>
    refine ⟨_, rfl, _, rfl, _, rfl, br_t rfl ?_⟩
    refine ⟨_, rfl, _, rfl, _, rfl, _, rfl, br_t rfl ?_⟩
    refine ⟨_, rfl, _, rfl, _, rfl, fun hk => ?_, fun hk => ?_⟩
    · refine ⟨_, rfl, _, rfl, ?_, rfl⟩
      have : lo ≤ i := by simpa using hk
      simp [numB, this]
    · refine ⟨?_, rfl⟩
      have : ¬ lo ≤ i := by simpa using hk
      simp [numB, this]
  | bl k =>
    refine ⟨_, rfl, _, rfl, _, rfl, br_t rfl ?_⟩
    exact ⟨_, rfl, _, rfl, _, rfl, _, rfl, br_f rfl ⟨rfl, rfl⟩⟩
  | non => exact ⟨_, rfl, _, rfl, _, rfl, br_f rfl ⟨rfl, rfl⟩⟩
  | str x => exact ⟨_, rfl, _, rfl, _, rfl, br_f rfl ⟨rfl, rfl⟩⟩
  | tup x => exact ⟨_, rfl, _, rfl, _, rfl, br_f rfl ⟨rfl, rfl⟩⟩
  | lst x => exact ⟨_, rfl, _, rfl, _, rfl, br_f rfl ⟨rfl, rfl⟩⟩
  | _ => exact h.elim
/-- all numbers: they are ints -/
theorem nums_of {lo hi : Int} {es : List D} (h : es.all (numB lo hi) = true) : ∃ ns : List Int, es = ns.map .int ∧ ∀ i ∈ ns, lo ≤ i ∧ i ≤ hi := by
  induction es with
  | nil => exact ⟨[], rfl, by simp⟩
  | cons e es ih =>
    rw [List.all_cons, Bool.and_eq_true] at h
    obtain ⟨ns, rfl, hb⟩ := ih h.2
    cases e with
    | int i =>
      have h1 : lo ≤ i ∧ i ≤ hi := by simpa [numB] using h.1
      refine ⟨i :: ns, rfl, fun j hj => ?_⟩
      rcases List.mem_cons.mp hj with rfl | hj
      · exact h1
      · exact hb j hj
    | _ => simp [numB] at h
def iv : D → Int
  | .int i => i
  | _ => 0
theorem map_iv (ns : List Int) : (ns.map D.int).map iv = ns := by rw [List.map_map]; exact List.map_id' ns
theorem lenD_t (es : List D) : biD .len [.tup es] = some (.int (es.length : Int)) := rfl
theorem nat_sub (a : Nat) (h : 1 ≤ a) : (a : Int) - 1 = ((a - 1 : Nat) : Int) := by omega
theorem le_nat (a c : Nat) : cmpD .LtE (.int (a : Int)) (.int (c : Int)) = some (decide (a ≤ c)) := by
  show some (decide ((a : Int) ≤ (c : Int))) = _; simp
theorem idx_I (r : List Int) (k : Nat) (h : k < r.length) : idxD (.tup (r.map .int)) (.int (k : Int)) = some (.int (r.getD k 0)) := idx_intst r k (by omega) (by omega)
def stOf (es : List D) : Sta := es.map fun d => (iv d).toNat
def numsAt (t : Tr) (es : List D) : Bool := (List.range es.length).all fun k => numB 0 ((rd t k).length : Int) (es.getD k .non)
def stB (t : Tr) : D → Bool
  | .tup es => decide (es.length = t.length) && numsAt t es && decide (distI (stands t (stOf es)) = (stands t (stOf es)).length)
  | _ => false
theorem zip_tv (t : Tr) (es : List D) (h : t.length = es.length) : zipD (dTr t) (.tup es) = some ((List.range es.length).map fun k => .tup [dR (rd t k), es.getD k .non]) := by
  show some (((t.map dR).zip es).map _) = _
  congr 1
  refine List.ext_getElem (by simp [h]) fun i h1 h2 => ?_
  simp only [List.getElem_map, List.getElem_range, List.getElem_zip]
  have h3 : i < es.length := by simpa using h2
  have h4 : i < t.length := by omega
  rw [rd, List.getD_eq_getElem?_getD, List.getD_eq_getElem?_getD, List.getElem?_eq_getElem h3, List.getElem?_eq_getElem h4]
  rfl
theorem getD_mem {es : List D} {k : Nat} (h : k < es.length) : es.getD k .non ∈ es := by
  rw [List.getD_eq_getElem?_getD, List.getElem?_eq_getElem h]
  exact List.getElem_mem h
theorem numB_nat {hi : Nat} {d : D} (h : numB 0 (hi : Int) d = true) : d = dA (iv d).toNat ∧ (iv d).toNat ≤ hi := by
  cases d with
  | int i =>
    have : 0 ≤ i ∧ i ≤ (hi : Int) := by simpa [numB] using h
    refine ⟨?_, ?_⟩
    · show D.int i = D.int _
      congr 1
      show i = (i.toNat : Int)
      omega
    · show i.toNat ≤ hi
      omega
  | _ => simp [numB] at h
theorem stOf_eq {t : Tr} {es : List D} (h : numsAt t es = true) : es = (stOf es).map dA := by
  unfold stOf
  rw [List.map_map]
  refine List.ext_getElem (by simp) fun i h1 h2 => ?_
  simp only [List.getElem_map]
  have := List.all_eq_true.mp h i (by simpa using h1)
  rw [List.getD_eq_getElem?_getD, List.getElem?_eq_getElem h1] at this
  exact (numB_nat this).1
theorem stands_len (t : Tr) (s : Sta) : (stands t s).length ≤ s.length := by
  unfold stands
  rw [List.length_map]
  refine Nat.le_trans (List.length_filter_le _ _) ?_
  simp
theorem eq_lens (ns : List Int) (h : ns.length ≤ 1000) : mthD .lenset (.lst (ns.map .int)) [] = some (.int (distI ns : Nat)) := lenset_l ns h
theorem is_state_ok (n m : Nat) (t : Tr) (d : D) (b : BS) (h : Smp (m + 2) d) (ht : t.length ≤ 100) : call (n + 2) 3 [dTr t, d] b = some (.bl (stB t d), b) := by
  refine call_eq (fd := t_is_state.fd) rfl rfl _ rfl _ _ _ ?_
  cases d with
  | tup es =>
    refine ⟨_, rfl, _, rfl, _, rfl, _, rfl, br_t rfl ?_⟩
    refine ⟨_, rfl, _, lenD_t es, _, rfl, _, lenT t, !decide (es.length = t.length), ne_cmp _ _ _ 1 (Nat.le_of_ble_eq_true rfl) trivial trivial (by simp [Int.ofNat_inj]), _, rfl, fun h1 => ?_, fun h1 => ?_⟩
    · refine ⟨?_, rfl⟩
      simp [stB, show ¬ es.length = t.length by simpa using h1]
    · have h1 : es.length = t.length := by simpa using h1
      refine .inr ⟨_, rfl, _, rfl, _, zip_tv t es h1.symm, ?_⟩
      refine lc_map (cl := ⟨call (n + 1), conOf C⟩) (List.range es.length) (fun k => .tup [dR (rd t k), es.getD k .non]) (fun k => .bl (numB 0 ((rd t k).length : Int) (es.getD k .non))) (fun k hk => ?_) (range_size (by omega)) ?_
      · have hk : k < es.length := by simpa using hk
        exact ⟨_, rfl, _, rfl, _, rfl, _, lenR _, _, _, is_number_ok n m _ 0 _ _ (h.2 _ (getD_mem hk)), rfl, rfl⟩
      · refine ⟨_, all_map (List.range es.length) _, _, rfl, _, rfl, fun h2 => ?_, fun h2 => ?_⟩
        · have h2 : numsAt t es = false := (Bool.not_eq_true' _).mp h2
          exact ⟨by simp [stB, h2], rfl⟩
        · have h2 : numsAt t es = true := (Bool.not_eq_false' _).mp h2
          have he := stOf_eq h2
          have hl : (stOf es).length = es.length := by simp [stOf]
          have hb := blocks_in_ok n t (stOf es) b (by rw [hl]; exact h1.symm) (by omega)
          have hsl := stands_len t (stOf es)
          refine ⟨_, rfl, _, rfl, _, _, (show call (n + 1) 2 [dTr t, .tup es] b = _ by rw [show D.tup es = dSt (stOf es) from congrArg D.tup he]; exact hb), (Nat.le_of_ble_eq_true rfl), ?_⟩
          refine ⟨_, rfl, _, eq_lens _ (by omega), _, rfl, _, lenL (stands t (stOf es)) D.int, _, eq_nat _ _, ?_, rfl⟩
          simp [stB, h1, h2]
  | bl k => exact ⟨_, rfl, _, rfl, _, rfl, _, rfl, br_f rfl ⟨_, rfl, br_t rfl ⟨rfl, rfl⟩⟩⟩
  | int k => exact ⟨_, rfl, _, rfl, _, rfl, _, rfl, br_f rfl ⟨_, rfl, br_t rfl ⟨rfl, rfl⟩⟩⟩
  | non => exact ⟨_, rfl, _, rfl, _, rfl, _, rfl, br_f rfl ⟨_, rfl, br_t rfl ⟨rfl, rfl⟩⟩⟩
  | str x => exact ⟨_, rfl, _, rfl, _, rfl, _, rfl, br_f rfl ⟨_, rfl, br_t rfl ⟨rfl, rfl⟩⟩⟩
  | lst x => exact ⟨_, rfl, _, rfl, _, rfl, _, rfl, br_f rfl ⟨_, rfl, br_t rfl ⟨rfl, rfl⟩⟩⟩
  | _ => exact h.elim
theorem idx_D (es : List D) (k : Nat) (h : k < es.length) : idxD (.tup es) (.int (k : Int)) = some (es.getD k .non) := by
  rw [List.getD_eq_getElem?_getD, List.getElem?_eq_getElem h]
  exact atI_ok es k h
/-- ints in tuples, not large -/
def Nm : Nat → D → Prop
  | 0, _ => False
  | n + 1, d => match d with
    | .int i => -1000000 < i ∧ i < 1000000
    | .tup ds => ds.length ≤ 1000 ∧ ∀ x ∈ ds, Nm n x
    | _ => False
theorem Nm_Smp : ∀ (m k : Nat) (d : D), Nm m d → Smp (m + k) d
  | 0, _, _, h => h.elim
  | m + 1, k, d, h => by
    rw [Nat.succ_add]
    cases d with
    | int i => trivial
    | tup ds => exact ⟨le_size (by have := h.1; omega), fun x hx => Nm_Smp m k x (h.2 x hx)⟩
    | _ => exact h.elim
theorem cut_mem {xs : List D} {lo hi : Option Int} {x : D} (h : x ∈ cutD xs lo hi) : x ∈ xs := List.mem_of_mem_drop (List.mem_of_mem_take h)
theorem cut_len (xs : List D) (lo hi : Option Int) : (cutD xs lo hi).length ≤ xs.length := by
  unfold En.cutD
  rw [List.length_take, List.length_drop]; omega
theorem pick8 {k : Nat} {cs : List D} (hl : cs.length = 8) (h : ∀ c ∈ cs, Smp k c) (v : Int) (h0 : 0 ≤ v) (h1 : v < 8) : ∃ c, idxD (.lst cs) (.int v) = some c ∧ Smp k c := by
  obtain ⟨i, rfl⟩ := Int.eq_ofNat_of_zero_le h0
  have hi : i < cs.length := by omega
  exact ⟨cs[i], atI_ok cs i hi, h _ (List.getElem_mem hi)⟩
theorem Smp_tup {k : Nat} {ds : List D} (hl : ds.length ≤ 100000) (h : ∀ x ∈ ds, Smp k x) : Smp (k + 1) (.tup ds) := ⟨le_size hl, h⟩
theorem gt_nat (a : Nat) : cmpD .Gt (.int (a : Int)) (.int 0) = some (decide (0 < a)) := by
  show some (decide ((0 : Int) < (a : Int))) = _; simp
theorem bent_int (n : Nat) (i : Int) (hi : -1000000 < i ∧ i < 1000000) (b : BS) (hb : BOk b) (m : Nat) : ∃ d b', call (n + 2) 27 [.box, .int i] b = some (d, b') ∧ BOk b' ∧ Smp (m + 3) d := by
  refine cwp (n := n + 1) (g := 27) (fd := t__law_bent.fd) rfl rfl [.box, .int i] rfl b (fun d b' => BOk b' ∧ Smp (m + 3) d) ?_
  obtain ⟨v, b1, e1, h0, h1, hb1⟩ := call_draw n hb 8 (by omega) (by omega)
  refine ⟨_, rfl, _, rfl, _, rfl, br_f rfl ⟨_, rfl, br_f rfl ?_⟩⟩
  refine ⟨_, rfl, _, _, e1, (Nat.le_of_ble_eq_true rfl), ?_⟩
  refine ⟨_, rfl, _, rfl, _, rfl, br_f rfl ?_⟩
  refine ⟨_, rfl, _, rfl, _, rfl, br_t rfl ⟨_, rfl, _, rfl, _, rfl, _, rfl, br_t rfl ?_⟩⟩
  have hst : biD .str [.int i] = some (.str (toString i : Str)) := if_pos (by omega)
  obtain ⟨c, hc, hs⟩ := pick8 (k := m + 3) (cs := [.int (i + 1), .int (i - 1), .int 0, .bl (decide (i = 1)), .non, .str (toString i : Str), .tup [.int i], .int (i + 2)]) rfl (fun c hc => by
    simp only [List.mem_cons, List.not_mem_nil, or_false] at hc
    rcases hc with rfl | rfl | rfl | rfl | rfl | rfl | rfl | rfl
    · trivial
    · trivial
    · trivial
    · trivial
    · trivial
    · trivial
    · exact ⟨(Nat.le_of_ble_eq_true rfl), fun x hx => by rw [List.mem_singleton.mp hx]; trivial⟩
    · trivial) v h0 h1
  refine ⟨_, rfl, _, rfl, _, rfl, _, rfl, _, rfl, _, En.eq_int _ _, _, rfl, _, hst, _, rfl, (Nat.le_of_ble_eq_true rfl), _, rfl, _, rfl, (Nat.le_of_ble_eq_true rfl), _, rfl, _, hc, hb1, hs⟩
theorem bent_tup (n m : Nat) (ds : List D) (h : Nm (m + 1) (.tup ds)) (b : BS) (hb : BOk b)
    (ih : ∀ (x : D) (b : BS), Nm m x → BOk b → ∃ d b', call (n + 1) 27 [.box, x] b = some (d, b') ∧ BOk b' ∧ Smp (m + 2) d) :
    ∃ d b', call (n + 2) 27 [.box, .tup ds] b = some (d, b') ∧ BOk b' ∧ Smp (m + 3) d := by
  refine cwp (n := n + 1) (g := 27) (fd := t__law_bent.fd) rfl rfl [.box, .tup ds] rfl b (fun d b' => BOk b' ∧ Smp (m + 3) d) ?_
  obtain ⟨hl, hm⟩ := h
  have hs : ∀ x ∈ ds, Smp (m + 2) x := fun x hx => Nm_Smp m 2 x (hm x hx)
  have rest : ∀ (b1 : BS), BOk b1 → ∀ (x2 x3 : Option (D × Bool)), wss ⟨call (n + 1), conOf C⟩ 1000000 (b__law_bent.drop 1) [some (.box, false), some (.tup ds, false), x2, x3] b1 fun r => match r with
      | (.ret d, _, b') => BOk b' ∧ Smp (m + 3) d
      | (.nxt, _, b') => BOk b' ∧ Smp (m + 3) .non
      | _ => False := by
    intro b1 hb1 x2 x3
    obtain ⟨v, b2, e2, h0, h1, hb2⟩ := call_draw n hb1 8 (by omega) (by omega)
    refine ⟨_, rfl, _, _, e2, (Nat.le_of_ble_eq_true rfl), ?_⟩
    refine ⟨_, rfl, _, rfl, _, rfl, br_t rfl ?_⟩
    have l1 := cut_len ds none (some 1)
    have l2 := cut_len ds (some 1) none
    have l3 := cut_len ds none (some (-1))
    obtain ⟨c, hc, hs⟩ := pick8 (k := m + 3) (cs := [.tup (ds ++ cutD ds none (some 1)), .tup (cutD ds (some 1) none), .tup ds.reverse, .tup (ds ++ [.int 0]), .tup [.tup ds], .tup (cutD ds none (some (-1))), .non, .tup (ds ++ [.tup [.int 0, .int 1]])]) rfl (fun c hc => by
      simp only [List.mem_cons, List.not_mem_nil, or_false] at hc
      rcases hc with rfl | rfl | rfl | rfl | rfl | rfl | rfl | rfl
      · refine Smp_tup (by rw [List.length_append]; omega) fun x hx => ?_
        rcases List.mem_append.mp hx with hx | hx
        · exact hs x hx
        · exact hs x (cut_mem hx)
      · exact Smp_tup (by omega) fun x hx => hs x (cut_mem hx)
      · exact Smp_tup (by rw [List.length_reverse]; omega) fun x hx => hs x (List.mem_reverse.mp hx)
      · refine Smp_tup (by rw [List.length_append]; simp only [List.length_singleton]; omega) fun x hx => ?_
        rcases List.mem_append.mp hx with hx | hx
        · exact hs x hx
        · rw [List.mem_singleton.mp hx]; trivial
      · refine Smp_tup (by simp) fun x hx => ?_
        rw [List.mem_singleton.mp hx]
        exact Smp_tup (by omega) fun x hx => Nm_Smp m 1 x (hm x hx)
      · exact Smp_tup (by omega) fun x hx => hs x (cut_mem hx)
      · trivial
      · refine Smp_tup (by rw [List.length_append]; simp only [List.length_singleton]; omega) fun x hx => ?_
        rcases List.mem_append.mp hx with hx | hx
        · exact hs x hx
        · rw [List.mem_singleton.mp hx]
          exact ⟨(Nat.le_of_ble_eq_true rfl), fun y hy => by
            simp only [List.mem_cons, List.not_mem_nil, or_false] at hy
            rcases hy with rfl | rfl <;> trivial⟩) v h0 h1
    refine ⟨_, rfl, _, rfl, _, rfl, _, rfl, _, addT _ _ (by omega), _, rfl, _, rfl, _, rfl, _, rfl, _, rfl, _, rfl, (Nat.le_of_ble_eq_true rfl), _, addT _ _ (by simp only [List.length_singleton]; omega), _, rfl, (Nat.le_of_ble_eq_true rfl), _, rfl, _, rfl, _, rfl, _, rfl, _, rfl, (Nat.le_of_ble_eq_true rfl), (Nat.le_of_ble_eq_true rfl), _, addT _ _ (by simp only [List.length_singleton]; omega), (Nat.le_of_ble_eq_true rfl), _, rfl, _, hc, hb2, hs⟩
  refine ⟨_, rfl, _, rfl, _, rfl, br_t rfl ?_⟩
  refine ⟨_, rfl, _, lenD_t ds, _, gt_nat _, _, rfl, fun h1 => ?_, fun h1 => ?_⟩
  · have hpos : 0 < ds.length := of_decide_eq_true h1
    obtain ⟨v, b1, e1, h0, h2, hb1⟩ := call_draw n hb 5 (by omega) (by omega)
    refine ⟨_, rfl, _, _, e1, _, rfl, ?_⟩
    by_cases hv : 0 < v
    · refine ⟨_, rfl, br_t (by simp [hv]) ?_⟩
      obtain ⟨k, b2, e2, hk0, hk1, hb2⟩ := call_draw n hb1 (ds.length : Int) (by omega) (by omega)
      obtain ⟨j, rfl⟩ := Int.eq_ofNat_of_zero_le hk0
      have hj : j < ds.length := by omega
      obtain ⟨x, b3, e3, hb3, hx⟩ := ih (ds.getD j .non) b2 (hm _ (getD_mem hj)) hb2
      refine ⟨_, rfl, _, rfl, _, lenD_t ds, _, _, e2, (Nat.le_of_ble_eq_true rfl), ?_⟩
      have c1 := cut_len ds none (some (j : Int))
      have c2 := cut_len ds (some ((j : Int) + 1)) none
      refine ⟨_, rfl, _, rfl, _, rfl, _, rfl, _, rfl, _, rfl, _, rfl, _, idx_D ds j hj, _, _, e3, (Nat.le_of_ble_eq_true rfl), _, addT _ _ (by simp only [List.length_singleton]; omega), _, rfl, _, rfl, _, rfl, _, rfl, _, rfl, _, addT _ _ (by rw [List.length_append]; simp only [List.length_singleton]; omega), hb3, ?_⟩
      refine Smp_tup (by rw [List.length_append, List.length_append]; simp only [List.length_singleton]; omega) fun y hy => ?_
      rcases List.mem_append.mp hy with hy | hy
      · rcases List.mem_append.mp hy with hy | hy
        · exact hs y (cut_mem hy)
        · rw [List.mem_singleton.mp hy]; exact hx
      · exact hs y (cut_mem hy)
    · refine ⟨_, rfl, br_f (by simp [hv]) ?_⟩
      exact rest b1 hb1 _ _
  · refine ⟨_, rfl, br_f h1 ?_⟩
    exact rest b hb _ _
theorem bent_ok : ∀ (m n : Nat) (d : D) (b : BS), Nm m d → BOk b → m ≤ n → ∃ d' b', call (n + 1) 27 [.box, d] b = some (d', b') ∧ BOk b' ∧ Smp (m + 2) d'
  | 0, _, _, _, h, _, _ => h.elim
  | m + 1, 0, d, b, h, hb, hn => by omega
  | m + 1, n + 1, d, b, h, hb, hn => by
    cases d with
    | int i => exact bent_int n i h b hb m
    | tup ds => exact bent_tup n m ds h b hb fun x b hx hb => bent_ok m n x b hx hb (by omega)
    | _ => exact h.elim
theorem Smp_up : ∀ (m n : Nat) (d : D), m ≤ n → Smp m d → Smp n d
  | 0, _, _, _, h => h.elim
  | m + 1, 0, _, hn, _ => by omega
  | m + 1, n + 1, d, hn, h => by
    cases d with
    | tup ds => exact ⟨h.1, fun x hx => Smp_up m n x (by omega) (h.2 x hx)⟩
    | lst ds => exact ⟨h.1, fun x hx => Smp_up m n x (by omega) (h.2 x hx)⟩
    | non => trivial
    | bl _ => trivial
    | int _ => trivial
    | str _ => trivial
    | _ => exact h.elim
theorem stB_ok {t : Tr} {s : Sta} (o : Ok t s) (h : stands t s = stands t s) : stB t (dSt s) = true := by
  have e : stOf (s.map dA) = s := by
    unfold stOf
    rw [List.map_map]
    refine (List.map_congr_left fun a _ => ?_).trans (List.map_id _)
    show (iv (dA a)).toNat = a
    show ((a : Int)).toNat = a
    omega
  have h1 : numsAt t (s.map dA) = true := by
    unfold numsAt
    rw [List.all_eq_true]
    intro k hk
    have hk : k < s.length := by simpa using hk
    have h2 := o.le k hk
    have h3 : (s.map dA).getD k .non = dA (ps s k) := by
      unfold ps
      rw [List.getD_eq_getElem?_getD, List.getD_eq_getElem?_getD, List.getElem?_map, List.getElem?_eq_getElem hk]; rfl
    rw [h3]
    show (decide ((0 : Int) ≤ (ps s k : Int)) && decide ((ps s k : Int) ≤ ((rd t k).length : Int))) = true
    simp; omega
  have h2 := (dist_nodup _).mpr o.nodup
  have h3 := o.len
  simp only [stB, dSt, e, h1, List.length_map, h2, h3]
  simp
theorem St_Nm {t : Tr} {s : Sta} (ht : TOk t) (o : Ok t s) : Nm 2 (dSt s) := by
  refine ⟨by rw [List.length_map]; have := o.len; have := ht.few; omega, fun x hx => ?_⟩
  obtain ⟨a, ha, rfl⟩ := List.mem_map.mp hx
  have := o.lt8 ht a ha
  exact ⟨by omega, by omega⟩
theorem dA_Smp (n : Nat) (l : List Nat) (h : l.length ≤ 100000) : Smp (n + 2) (.tup (l.map dA)) := by
  refine Smp_tup (by rw [List.length_map]; exact h) fun x hx => ?_
  obtain ⟨a, _, rfl⟩ := List.mem_map.mp hx
  trivial
/-- several drawn values nearly as d -/
theorem bents {cl0 : Calls} (k v : Nat) (n m : Nat) (hcl : cl0 = ⟨call (n + 1), conOf C⟩) (d : D) (hd : Nm m d) (hmn : m ≤ n) (hk : k ≤ 100) (own : List Nat) (en : En.Env) (b : BS) (hb : BOk b) (K : D → BS → Prop)
    (a1 a2 : Nat) (hv : ∀ i : Nat, ∃ e1, bindG (.nm v) (.int (i : Int)) (wipeE en own) = some e1 ∧ e1.get a1 = some .box ∧ e1.get a2 = some d)
    (hK : ∀ l : List D, (∀ y ∈ l, Smp (m + 2) y) → l.length ≤ 100 → ∀ b, BOk b → K (.lst l) b) :
    we cl0 (.lc (.nm v) (.rng (.cons (.cst (.int (k : Int))) .nil)) .nil (.call 27 (.cons (.var a1) (.cons (.var a2) .nil))) own) en b K := by
  subst hcl
  refine .inr ⟨_, nat_rng k (by omega), ?_⟩
  refine lc_draw (β := D) (List.range k) (fun i : Nat => .int (i : Int)) (fun d => d) (Smp (m + 2)) BOk hb (fun a b ha hb => ?_) (range_size (by omega)) fun l hl hp b hb => ?_
  · obtain ⟨e1, h1, h2, h3⟩ := hv a
    obtain ⟨d', b', h4, h5, h6⟩ := bent_ok m n d b hd hb hmn
    exact ⟨e1, h1, _, h2, _, h3, _, _, h4, ⟨d', h6, rfl⟩, h5⟩
  · rw [List.map_id']
    exact hK l hp (by rw [hl, List.length_range]; exact hk) b hb
end Lw

namespace Lw
open PySem PySem.Spec PyProof.Rows L2 En
def intB : D → Bool
  | .int _ => true
  | _ => false
theorem ints_of : ∀ {es : List D}, es.all intB = true → ∃ ns : List Int, es = ns.map .int
  | [], _ => ⟨[], rfl⟩
  | e :: es, h => by
    rw [List.all_cons, Bool.and_eq_true] at h
    obtain ⟨ns, rfl⟩ := ints_of h.2
    cases e with
    | int i => exact ⟨i :: ns, rfl⟩
    | _ => simp [intB] at h
theorem all_intB (ns : List Int) : (ns.map D.int).all intB = true := by
  rw [List.all_map, List.all_eq_true]
  exact fun _ _ => rfl
theorem int_we {cl : Calls} (m : Nat) (d : D) (env : En.Env) (b : BS) (v : Nat) (hv : env.get v = some d) (h : Smp (m + 1) d) :
    we cl (.bop .And (.cons (.bi (.isi "int") (.cons (.var v) .nil)) (.cons (.not (.bi (.isi "bool") (.cons (.var v) .nil))) .nil))) env b fun x b2 => x = .bl (intB d) ∧ b2 = b := by
  cases d with
  | int i =>
    refine ⟨_, hv, _, rfl, _, rfl, br_t rfl ?_⟩
    exact ⟨_, hv, _, rfl, _, rfl, rfl, rfl⟩
  | bl k =>
    refine ⟨_, hv, _, rfl, _, rfl, br_t rfl ?_⟩
    exact ⟨_, hv, _, rfl, _, rfl, rfl, rfl⟩
  | non => exact ⟨_, hv, _, rfl, _, rfl, br_f rfl ⟨rfl, rfl⟩⟩
  | str x => exact ⟨_, hv, _, rfl, _, rfl, br_f rfl ⟨rfl, rfl⟩⟩
  | tup x => exact ⟨_, hv, _, rfl, _, rfl, br_f rfl ⟨rfl, rfl⟩⟩
  | lst x => exact ⟨_, hv, _, rfl, _, rfl, br_f rfl ⟨rfl, rfl⟩⟩
  | _ => exact h.elim
def mI (l : List Nat) : List Int := l.map fun j : Nat => (j : Int)
theorem map_dA (l : List Nat) : l.map dA = (mI l).map .int := by rw [mI, List.map_map]; rfl
theorem ninM_l (k : Int) (l : List Nat) : cmpD .NotIn (.int k) (.lst (l.map dA)) = some (!decide (k ∈ mI l)) := by rw [map_dA]; exact int_nin k (mI l)
theorem ninM_t (k : Int) (l : List Nat) : cmpD .NotIn (.int k) (.tup (l.map dA)) = some (!decide (k ∈ mI l)) := by rw [map_dA]; exact int_nin k (mI l)
theorem inM_l (k : Int) (l : List Nat) : cmpD .In (.int k) (.lst (l.map dA)) = some (decide (k ∈ mI l)) := by rw [map_dA]; exact int_in k (mI l)
theorem inM_t (k : Int) (l : List Nat) : cmpD .In (.int k) (.tup (l.map dA)) = some (decide (k ∈ mI l)) := by rw [map_dA]; exact int_in k (mI l)
theorem mem_mI {k : Int} {l : List Nat} : k ∈ mI l ↔ ∃ j ∈ l, k = (j : Int) := by
  unfold mI
  rw [List.mem_map]
  exact ⟨fun ⟨j, h, e⟩ => ⟨j, h, e.symm⟩, fun ⟨j, h, e⟩ => ⟨j, h, e.symm⟩⟩
/-- the moves bring all through -/
def runB (t : Tr) : Sta → List Int → Bool
  | s, [] => done t s
  | s, k :: ks => decide (k ∈ mI (moves t s)) && runB t (nxt s k.toNat) ks
def brB (t : Tr) (s : Sta) : D → Bool
  | .tup es => es.all intB && runB t s (es.map iv)
  | _ => false
theorem runB_in (t : Tr) : ∀ (ks : List Int) (s : Sta), runB t s ks = true → ∀ k ∈ ks, 0 ≤ k ∧ k ≤ (s.length : Int) - 1
  | [], _, _, _, h => by cases h
  | a :: ks, s, h, k, hk => by
    simp only [runB, Bool.and_eq_true, decide_eq_true_eq] at h
    obtain ⟨j, hj, rfl⟩ := mem_mI.mp h.1
    have hjl := mem_moves_lt hj
    rcases List.mem_cons.mp hk with rfl | hk
    · omega
    · have := runB_in t ks _ h.2 k hk
      rw [nxt_len] at this
      exact this
section
variable (n m : Nat) (t : Tr) (s : Sta) (d : D) (b : BS) (h : Smp (m + 2) d) (ht : TOk t) (o : Ok t s)
include h ht o
theorem law_brings_ok : call (n + 3) 28 [dTr t, dSt s, d] b = some (.bl (brB t s d), b) := by
  refine call_eq (fd := t__law_brings.fd) rfl rfl _ rfl _ _ _ ?_
  cases d with
  | tup es =>
    refine ⟨_, rfl, _, rfl, _, rfl, _, rfl, br_t rfl ?_⟩
    refine .inr ⟨_, rfl, _, rfl, ?_⟩
    refine lc_self (cl := ⟨call (n + 2), conOf C⟩) es (fun d => .bl (intB d)) (fun d hd => ⟨_, rfl, int_we m d _ _ 3 rfl (h.2 d hd)⟩) h.1 ?_
    refine ⟨_, all_map es _, _, rfl, _, rfl, fun h2 => ?_, fun h2 => ?_⟩
    · have h2 : es.all intB = false := (Bool.not_eq_true' _).mp h2
      exact ⟨by simp [brB, h2], rfl⟩
    · have h2 : es.all intB = true := (Bool.not_eq_false' _).mp h2
      obtain ⟨ns, rfl⟩ := ints_of h2
      have hbr : brB t s (.tup (ns.map .int)) = runB t s ns := by simp only [brB, h2, map_iv, Bool.true_and]
      rw [hbr]
      refine .inr ⟨_, rfl, _, rfl, ?_⟩
      refine for_pre ns D.int (fun pre e bb => bb = b ∧ ∃ u x3, Ok t u ∧ (∀ rest, ns = pre ++ rest → runB t s ns = runB t u rest) ∧ e = [some (dTr t, false), some (dSt u, false), some (.tup (ns.map .int), false), x3]) ⟨rfl, s, _, o, fun rest e => by rw [e]; rfl, rfl⟩ (fun pre k rest env bb hd hi => ?_) fun env bb hi => ?_
      · obtain ⟨rfl, u, x3, ou, hr, rfl⟩ := hi
        have hr := hr _ hd
        have hl : u.length ≤ 100 := by have := ou.len; have := ht.few; omega
        refine ⟨_, rfl, ?_⟩
        refine ⟨_, rfl, _, rfl, _, rfl, _, _, law_moves_ok n t u _ ou.len hl, _, ninM_l _ _, _, rfl, fun hp => ?_, fun hp => ?_⟩
        · have hp : k ∉ mI (moves t u) := by simpa using hp
          refine ⟨?_, rfl⟩
          rw [hr]
          simp [runB, hp]
        · have hp : k ∈ mI (moves t u) := by simpa using hp
          obtain ⟨j, hj, rfl⟩ := mem_mI.mp hp
          refine ⟨_, rfl, _, rfl, _, _, law_next_ok (n + 1) u _ hl j (mem_moves_lt hj), (Nat.le_of_ble_eq_true rfl), rfl, nxt u j, _, ou.nxt hj, fun rest2 e2 => ?_, rfl⟩
          have e3 : rest = rest2 := by
            rw [hd, List.append_assoc] at e2
            have := List.append_cancel_left e2
            simpa using this
          rw [hr, ← e3]
          simp only [runB, hp, decide_true, Bool.true_and]
          rfl
      · obtain ⟨rfl, u, x3, ou, hr, rfl⟩ := hi
        have hl : u.length ≤ 100 := by have := ou.len; have := ht.few; omega
        refine ⟨_, rfl, _, rfl, _, _, law_done_ok (n + 1) t u _ ou.len hl, ?_, rfl⟩
        rw [hr [] (by simp)]; rfl
  | bl k => exact ⟨_, rfl, _, rfl, _, rfl, _, rfl, br_f rfl ⟨_, rfl, br_t rfl ⟨rfl, rfl⟩⟩⟩
  | int k => exact ⟨_, rfl, _, rfl, _, rfl, _, rfl, br_f rfl ⟨_, rfl, br_t rfl ⟨rfl, rfl⟩⟩⟩
  | non => exact ⟨_, rfl, _, rfl, _, rfl, _, rfl, br_f rfl ⟨_, rfl, br_t rfl ⟨rfl, rfl⟩⟩⟩
  | str x => exact ⟨_, rfl, _, rfl, _, rfl, _, rfl, br_f rfl ⟨_, rfl, br_t rfl ⟨rfl, rfl⟩⟩⟩
  | lst x => exact ⟨_, rfl, _, rfl, _, rfl, _, rfl, br_f rfl ⟨_, rfl, br_t rfl ⟨rfl, rfl⟩⟩⟩
  | _ => exact h.elim
theorem brings_through_ok : call (n + 3) 11 [dTr t, dSt s, d] b = some (.bl (brB t s d), b) := by
  refine call_eq (fd := t_brings_through.fd) rfl rfl _ rfl _ _ _ ?_
  cases d with
  | tup es =>
    refine ⟨_, rfl, _, rfl, _, rfl, _, rfl, br_t rfl ?_⟩
    refine .inr ⟨_, rfl, _, rfl, ?_⟩
    refine lc_self (cl := ⟨call (n + 2), conOf C⟩) es (fun d => .bl (numB 0 ((t.length : Int) - 1) d)) (fun d hd => ⟨_, rfl, _, rfl, _, rfl, _, lenT t, _, rfl, _, _, is_number_ok (n + 1) m d 0 _ _ (h.2 d hd), rfl, rfl⟩) h.1 ?_
    refine ⟨_, all_map es _, _, rfl, _, rfl, fun h2 => ?_, fun h2 => ?_⟩
    · have h2 : es.all (numB 0 ((t.length : Int) - 1)) = false := (Bool.not_eq_true' _).mp h2
      refine ⟨?_, rfl⟩
      cases hb : brB t s (.tup es) with
      | false => rfl
      | true =>
        simp only [brB, Bool.and_eq_true] at hb
        obtain ⟨ns, rfl⟩ := ints_of hb.1
        rw [map_iv] at hb
        have h3 := runB_in t ns s hb.2
        rw [← o.len] at h3
        have h4 : (ns.map D.int).all (numB 0 ((t.length : Int) - 1)) = true := by
          rw [List.all_map, List.all_eq_true]
          intro k hk
          have := h3 k hk
          simp [numB, this]
        rw [h4] at h2; cases h2
    · have h2 : es.all (numB 0 ((t.length : Int) - 1)) = true := (Bool.not_eq_false' _).mp h2
      obtain ⟨ns, rfl, _⟩ := nums_of h2
      have hbr : brB t s (.tup (ns.map .int)) = runB t s ns := by simp only [brB, all_intB, map_iv, Bool.true_and]
      rw [hbr]
      refine .inr ⟨_, rfl, _, rfl, ?_⟩
      refine for_pre ns D.int (fun pre e bb => bb = b ∧ ∃ u x3, Ok t u ∧ (∀ rest, ns = pre ++ rest → runB t s ns = runB t u rest) ∧ e = [some (dTr t, false), some (dSt u, false), some (.tup (ns.map .int), false), x3]) ⟨rfl, s, _, o, fun rest e => by rw [e]; rfl, rfl⟩ (fun pre k rest env bb hd hi => ?_) fun env bb hi => ?_
      · obtain ⟨rfl, u, x3, ou, hr, rfl⟩ := hi
        have hr := hr _ hd
        have hl : u.length ≤ 100 := by have := ou.len; have := ht.few; omega
        refine ⟨_, rfl, ?_⟩
        refine ⟨_, rfl, _, rfl, _, rfl, _, _, can_move_ok n t u _ ou.len hl, _, ninM_t _ _, _, rfl, fun hp => ?_, fun hp => ?_⟩
        · have hp : k ∉ mI (moves t u) := by simpa using hp
          refine ⟨?_, rfl⟩
          rw [hr]
          simp [runB, hp]
        · have hp : k ∈ mI (moves t u) := by simpa using hp
          obtain ⟨j, hj, rfl⟩ := mem_mI.mp hp
          refine ⟨_, rfl, _, rfl, _, rfl, _, _, state_behind_ok (n + 1) t u _ hl j (mem_moves_lt hj), (Nat.le_of_ble_eq_true rfl), rfl, nxt u j, _, ou.nxt hj, fun rest2 e2 => ?_, rfl⟩
          have e3 : rest = rest2 := by
            rw [hd, List.append_assoc] at e2
            have := List.append_cancel_left e2
            simpa using this
          rw [hr, ← e3]
          simp only [runB, hp, decide_true, Bool.true_and]
          rfl
      · obtain ⟨rfl, u, x3, ou, hr, rfl⟩ := hi
        have hl : u.length ≤ 100 := by have := ou.len; have := ht.few; omega
        refine ⟨_, rfl, _, rfl, _, _, is_through_ok (n + 1) t u _ ou.len hl, ?_, rfl⟩
        rw [hr [] (by simp)]; rfl
  | bl k => exact ⟨_, rfl, _, rfl, _, rfl, _, rfl, br_f rfl ⟨_, rfl, br_t rfl ⟨rfl, rfl⟩⟩⟩
  | int k => exact ⟨_, rfl, _, rfl, _, rfl, _, rfl, br_f rfl ⟨_, rfl, br_t rfl ⟨rfl, rfl⟩⟩⟩
  | non => exact ⟨_, rfl, _, rfl, _, rfl, _, rfl, br_f rfl ⟨_, rfl, br_t rfl ⟨rfl, rfl⟩⟩⟩
  | str x => exact ⟨_, rfl, _, rfl, _, rfl, _, rfl, br_f rfl ⟨_, rfl, br_t rfl ⟨rfl, rfl⟩⟩⟩
  | lst x => exact ⟨_, rfl, _, rfl, _, rfl, _, rfl, br_f rfl ⟨_, rfl, br_t rfl ⟨rfl, rfl⟩⟩⟩
  | _ => exact h.elim
end
end Lw

namespace Lw
open PySem PySem.Spec PyProof.Rows L2 En
def dN : Option Nat → D
  | none => .non
  | some k => dA k
theorem perm_rows {t : Tr} {s : Sta} {L M : List Sta} (h1 : Fd t s L) (h2 : Fd t s M) (a1 : ∀ u, u ∈ L ↔ Reach t s u) (a2 : ∀ u, u ∈ M ↔ Reach t s u) : L.mergeSort leS = M.mergeSort leS :=
  sortS_same ((List.perm_ext_iff_of_nodup h1.nd h2.nd).mpr fun u => by rw [a1, a2])
section
variable (n : Nat) (t : Tr) (s : Sta) (b : BS) (ht : TOk t) (o : Ok t s)
include ht o
theorem states_from_eq (rows : List Sta) (fd : Fd t s rows) (ha : ∀ u, u ∈ rows ↔ Reach t s u) : call (n + 3) 8 [dTr t, dSt s] b = some (.tup ((rows.mergeSort leS).map dSt), b) := by
  obtain ⟨rows', e, fd', ha'⟩ := states_from_ok n t s b ht o
  rw [perm_rows fd fd' ha ha']
  exact e
theorem may_move_ok : call (n + 5) 14 [dTr t, dSt s] b = some (.tup ((fit t s).map dA), b) := by
  obtain ⟨S, e1, hS⟩ := safe_states_ok n t s b ht o
  refine call_eq (fd := t_may_move.fd) rfl rfl _ rfl _ _ _ ?_
  have hl : s.length ≤ 100 := by have := o.len; have := ht.few; omega
  have hml := moves_len t s
  refine ⟨_, rfl, _, rfl, _, _, e1, (Nat.le_of_ble_eq_true rfl), ?_⟩
  refine .inr ⟨_, rfl, _, rfl, _, _, can_move_ok (n + 2) t s _ o.len hl, _, rfl, ?_⟩
  refine lc_filter (cl := ⟨call (n + 4), conOf C⟩) (moves t s) dA dA (fun k => decide (nxt s k ∈ S)) (fun j hj => ?_) (le_size (by omega)) ?_
  · exact ⟨_, rfl, _, rfl, _, rfl, _, rfl, _, _, state_behind_ok (n + 3) t s _ hl j (mem_moves_lt hj), _, rfl, _, inDs _ _, _, rfl, rfl, rfl, fun _ => ⟨_, rfl, rfl, rfl⟩⟩
  rw [fit_eq hS .refl]
  exact ⟨_, rfl, rfl, rfl⟩
theorem any_done {rows : List Sta} (ha : ∀ u, u ∈ rows ↔ Reach t s u) : (rows.any fun u => done t u) = sf t s := by
  rw [Bool.eq_iff_iff, List.any_eq_true, sf_iff]
  exact ⟨fun ⟨u, hu, hd⟩ => ⟨u, (ha u).mp hu, hd⟩, fun ⟨u, hu, hd⟩ => ⟨u, (ha u).mpr hu, hd⟩⟩
theorem trap_of_ok (rows : List Sta) (fd : Fd t s rows) (ha : ∀ u, u ∈ rows ↔ Reach t s u) : call (n + 4) 12 [dTr t, dSt s] b = some (if sf t s = true then .non else .tup ((rows.mergeSort leS).map dSt), b) := by
  refine call_eq (fd := t_trap_of.fd) rfl rfl _ rfl _ _ _ ?_
  have hfew := rows_few ht fd.nd fd.ok
  refine ⟨_, rfl, _, rfl, _, _, states_from_eq n t s b ht o rows fd ha, (Nat.le_of_ble_eq_true rfl), ?_⟩
  refine .inr ⟨_, rfl, _, rfl, ?_⟩
  refine lc_map (cl := ⟨call (n + 3), conOf C⟩) (rows.mergeSort leS) dSt (fun u => .bl (done t u)) (fun u hu => ?_) (le_size (by rw [(List.mergeSort_perm rows leS).length_eq]; omega)) ?_
  · have ou := fd.ok u (mem_sortS.mp hu)
    exact ⟨_, rfl, _, rfl, _, rfl, _, _, is_through_ok (n + 2) t u _ ou.len (by have := ou.len; have := ht.few; omega), rfl, rfl⟩
  have hany := any_done t s ht o (rows := rows.mergeSort leS) fun u => mem_sortS.trans (ha u)
  refine ⟨_, any_map (rows.mergeSort leS) _, _, rfl, ?_⟩
  rw [hany]
  cases e : sf t s with
  | true => exact br_t rfl ⟨rfl, rfl⟩
  | false => exact br_f rfl ⟨_, rfl, rfl, rfl⟩
end
/-! ### the first mistake -/
def pth (s : Sta) : List Nat → Sta
  | [] => s
  | k :: R => nxt (pth s R) k
def Lgl (t : Tr) (s : Sta) : List Nat → Prop
  | [] => True
  | k :: R => k ∈ moves t (pth s R) ∧ Lgl t s R
noncomputable def mis (t : Tr) (s : Sta) : List Nat → Option Nat
  | [] => none
  | k :: R => match mis t s R with
    | some i => some i
    | none => if sf t (nxt (pth s R) k) = true then none else some R.length
theorem Lgl.reach {t : Tr} {s : Sta} : ∀ {R : List Nat}, Lgl t s R → Reach t s (pth s R)
  | [], _ => .refl
  | _ :: _, h => .step (Lgl.reach h.2) h.1
theorem Lgl.drop {t : Tr} {s : Sta} : ∀ {Y X : List Nat}, Lgl t s (Y ++ X) → Lgl t s X
  | [], _, h => h
  | _ :: Y, _, h => Lgl.drop (Y := Y) h.2
theorem mis_app {t : Tr} {s : Sta} {X : List Nat} {i : Nat} (h : mis t s X = some i) : ∀ Y : List Nat, mis t s (Y ++ X) = some i
  | [] => h
  | k :: Y => by
    show (match mis t s (Y ++ X) with
      | some i => some i
      | none => _) = _
    rw [mis_app h Y]
theorem first_mistake_ok (n : Nat) (t : Tr) (s : Sta) (b : BS) (ht : TOk t) (o : Ok t s) (R : List Nat) (hR : Lgl t s R) (hl : R.length ≤ 100) :
    call (n + 5) 15 [dTr t, dSt s, .tup (R.reverse.map dA)] b = some (dN (mis t s R), b) := by
  obtain ⟨S, e1, hS⟩ := safe_states_ok n t s b ht o
  refine call_eq (fd := t_first_mistake.fd) rfl rfl _ rfl _ _ _ ?_
  refine ⟨_, rfl, _, rfl, _, _, e1, (Nat.le_of_ble_eq_true rfl), ?_⟩
  generalize hds : R.reverse = ds
  have hRd : R = ds.reverse := by rw [← hds, List.reverse_reverse]
  have hdl : ds.length = R.length := by rw [← hds, List.length_reverse]
  refine .inr ⟨_, rfl, _, enum_s ds, ?_⟩
  refine for_pre (List.range ds.length) (fun k => .tup [.int (k : Int), .int (ps ds k : Int)]) (fun pre e bb => bb = b ∧ ∃ x4 x5, mis t s (ds.take pre.length).reverse = none ∧ e = [some (dTr t, false), some (dSt (pth s (ds.take pre.length).reverse), false), some (.tup (ds.map dA), false), some (dDs S, false), x4, x5]) ⟨rfl, _, _, rfl, rfl⟩ (fun pre k rest env bb hd hi => ?_) fun env bb hi => ?_
  · obtain ⟨rfl, x4, x5, hm, rfl⟩ := hi
    obtain ⟨rfl, hk⟩ := range_split hd
    generalize hj : pre.length = j at hk hm ⊢
    have htk : (ds.take (j + 1)).reverse = ps ds j :: (ds.take j).reverse := by
      rw [List.take_succ, List.getElem?_eq_getElem hk]
      have : ps ds j = ds[j] := by unfold ps; rw [List.getD_eq_getElem?_getD, List.getElem?_eq_getElem hk]; rfl
      rw [this]; simp
    have hsp : R = (ds.drop (j + 1)).reverse ++ (ps ds j :: (ds.take j).reverse) := by
      rw [← htk, hRd, ← List.reverse_append, List.take_append_drop]
    have hlg : Lgl t s (ps ds j :: (ds.take j).reverse) := Lgl.drop (Y := (ds.drop (j + 1)).reverse) (hsp ▸ hR)
    have hreach := hlg.2.reach
    have ou := hreach.ok o
    have hul : (pth s (ds.take j).reverse).length ≤ 100 := by have := ou.len; have := ht.few; omega
    have hrn : Reach t s (nxt (pth s (ds.take j).reverse) (ps ds j)) := .step hreach hlg.1
    refine ⟨_, rfl, ?_⟩
    refine ⟨_, rfl, _, rfl, _, rfl, _, _, state_behind_ok (n + 3) t _ _ hul (ps ds j) (mem_moves_lt hlg.1), (Nat.le_of_ble_eq_true rfl), ?_⟩
    refine ⟨_, rfl, _, rfl, _, ninDs _ _, _, rfl, fun hp => ?_, fun hp => ?_⟩
    · have hp : nxt (pth s (ds.take j).reverse) (ps ds j) ∉ S := by simpa using hp
      have hns : sf t (nxt (pth s (ds.take j).reverse) (ps ds j)) = false := by
        cases e : sf t (nxt (pth s (ds.take j).reverse) (ps ds j)) with
        | false => rfl
        | true => exact absurd ((hS _).mpr ⟨hrn, sf_iff.mp e⟩) hp
      have h1 : mis t s (ps ds j :: (ds.take j).reverse) = some j := by
        show (match mis t s (ds.take j).reverse with
          | some i => some i
          | none => if sf t (nxt (pth s (ds.take j).reverse) (ps ds j)) = true then none else some (ds.take j).reverse.length) = _
        rw [hm, hns]
        simp
        omega
      refine ⟨_, rfl, ?_, rfl⟩
      rw [hsp, mis_app h1]
      rfl
    · have hp : nxt (pth s (ds.take j).reverse) (ps ds j) ∈ S := by simpa only [Bool.not_eq_false', decide_eq_true_eq] using hp
      have hsf := sf_iff.mpr ((hS _).mp hp).2
      have el : (pre ++ [j]).length = j + 1 := by simp [hj]
      refine ⟨rfl, some (.int (j : Int), false), some (.int (ps ds j : Int), false), ?_, ?_⟩
      · rw [el, htk]
        show (match mis t s (ds.take j).reverse with
          | some i => some i
          | none => if sf t (nxt (pth s (ds.take j).reverse) (ps ds j)) = true then none else some (ds.take j).reverse.length) = _
        rw [hm, hsf]
        rfl
      · rw [el, htk]; rfl
  · obtain ⟨rfl, x4, x5, hm, rfl⟩ := hi
    rw [List.length_range, List.take_length, ← hRd] at hm
    rw [hm]
    exact ⟨rfl, rfl⟩
end Lw

namespace Lw
open PySem PySem.Spec PyProof.Rows L2 En
/-! ### order of states -/
def ltS (s u : Sta) : Bool := tst .Lt (cmpP (pI (toI s)) (pI (toI u)))
theorem ord_dSt (op : CmpOp) (s u : Sta) : ordD op (dSt s) (dSt u) = some (tst op (cmpP (pI (toI s)) (pI (toI u)))) := by
  unfold ordD
  rw [dSt_dI, dSt_dI, py_dI, py_dI]
  have h1 := lay_pI (toI s)
  have h2 := lay_pI (toI u)
  simp only [okP_pI, h1.1, h2.1, h1.2, Bool.and_self]
  rfl
theorem lt_dSt (s u : Sta) : cmpD .Lt (dSt s) (dSt u) = some (ltS s u) := ord_dSt .Lt s u
theorem ge_dSt (s u : Sta) : cmpD .GtE (dSt s) (dSt u) = some (!ltS s u) := by
  have : cmpD .GtE (dSt s) (dSt u) = ordD .GtE (dSt s) (dSt u) := rfl
  rw [this, ord_dSt]
  unfold ltS tst
  cases cmpP (pI (toI s)) (pI (toI u)) <;> rfl
def asc (L : List Sta) : Bool := (List.range (L.length - 1)).all fun k => ltS (L.getD k []) (L.getD (k + 1) [])
theorem rng_pred (m : Nat) (h : m ≤ sizeLine) : rngI [.int ((m : Int) - 1)] = some ((List.range (m - 1)).map fun i : Nat => .int (i : Int)) := by
  rw [sizeLine_eq] at h
  rw [rngD_ok _ (by omega) (by omega), show ((m : Int) - 1).toNat = m - 1 by omega]
theorem idx_st (L : List Sta) (k : Nat) (h : k < L.length) : idxD (.tup (L.map dSt)) (.int (k : Int)) = some (dSt (L.getD k [])) := by
  refine idx_map L dSt k _ ?_
  rw [List.getD_eq_getElem?_getD, List.getElem?_eq_getElem h]; rfl
theorem is_ascending_ok (n : Nat) (L : List Sta) (b : BS) (h : L.length ≤ sizeLine) : call (n + 1) 1 [.tup (L.map dSt)] b = some (.bl (asc L), b) := by
  refine call_eq (fd := t_is_ascending.fd) rfl rfl _ rfl _ _ _ ?_
  refine .inr ⟨_, rfl, _, lenTu L dSt, _, rfl, _, rng_pred L.length h, ?_⟩
  refine lc_map (cl := ⟨call n, conOf C⟩) (List.range (L.length - 1)) (fun i : Nat => .int (i : Int)) (fun k => .bl (ltS (L.getD k []) (L.getD (k + 1) []))) (fun k hk => ?_) (by rw [List.length_range]; omega) ?_
  · have hk : k < L.length - 1 := by simpa using hk
    exact ⟨_, rfl, _, rfl, _, rfl, _, idx_st L k (by omega), _, rfl, _, rfl, _, rfl, _, idx_st L (k + 1) (by omega), _, lt_dSt _ _, rfl, rfl⟩
  · exact ⟨_, all_map (List.range (L.length - 1)) _, rfl, rfl⟩
/-! ### states among values -/
theorem nodup_map_inj {α β : Type} {f : α → β} : ∀ {l : List α}, (l.map f).Nodup → ∀ x ∈ l, ∀ y ∈ l, f x = f y → x = y
  | [], _, _, h, _, _, _ => by cases h
  | a :: l, hn, x, hx, y, hy, e => by
    rw [List.map_cons, List.nodup_cons] at hn
    rcases List.mem_cons.mp hx with hx1 | hx1
    · rcases List.mem_cons.mp hy with hy1 | hy1
      · rw [hx1, hy1]
      · exact absurd (by rw [← hx1, e]; exact List.mem_map_of_mem hy1) hn.1
    · rcases List.mem_cons.mp hy with hy1 | hy1
      · exact absurd (by rw [← hy1, ← e]; exact List.mem_map_of_mem hx1) hn.1
      · exact nodup_map_inj hn.2 x hx1 y hy1 e
theorem stB_Ok {t : Tr} {d : D} (h : stB t d = true) : ∃ s, d = dSt s ∧ Ok t s := by
  cases d with
  | tup es =>
    simp only [stB, Bool.and_eq_true, decide_eq_true_eq] at h
    obtain ⟨⟨h1, h2⟩, h3⟩ := h
    have he := stOf_eq h2
    have hl : (stOf es).length = es.length := by simp [stOf]
    refine ⟨stOf es, congrArg D.tup he, ⟨by rw [hl]; exact h1.symm, fun k hk => ?_, fun i j hi hj hij li lj e => ?_⟩⟩
    · have hk' : k < es.length := by omega
      have h4 := List.all_eq_true.mp h2 k (by simpa using hk')
      have h5 := numB_nat h4
      have h6 : ps (stOf es) k = (iv (es.getD k .non)).toNat := by
        unfold ps stOf
        rw [List.getD_eq_getElem?_getD, List.getD_eq_getElem?_getD, List.getElem?_map, List.getElem?_eq_getElem hk']; rfl
      rw [h6]
      exact h5.2
    · rw [dist_nodup] at h3
      unfold stands at h3
      exact hij (nodup_map_inj h3 i (List.mem_filter.mpr ⟨by simpa using hi, li⟩) j (List.mem_filter.mpr ⟨by simpa using hj, lj⟩) e)
  | _ => simp [stB] at h
theorem stB_iff {t : Tr} {s : Sta} : stB t (dSt s) = true ↔ Ok t s := ⟨fun h => by
  obtain ⟨u, e, o⟩ := stB_Ok h
  rw [dSt_inj e]; exact o, fun o => stB_ok o rfl⟩
theorem states_of {t : Tr} : ∀ {es : List D}, es.all (stB t) = true → ∃ L : List Sta, es = L.map dSt ∧ ∀ u ∈ L, Ok t u
  | [], _ => ⟨[], rfl, by simp⟩
  | e :: es, h => by
    rw [List.all_cons, Bool.and_eq_true] at h
    obtain ⟨L, rfl, hL⟩ := states_of h.2
    obtain ⟨s, rfl, o⟩ := stB_Ok h.1
    refine ⟨s :: L, rfl, fun u hu => ?_⟩
    rcases List.mem_cons.mp hu with rfl | hu
    · exact o
    · exact hL u hu
def unS : D → Sta
  | .tup es => stOf es
  | _ => []
theorem unS_dSt (s : Sta) : unS (dSt s) = s := by
  show stOf (s.map dA) = s
  unfold stOf
  rw [List.map_map]
  refine (List.map_congr_left fun a _ => ?_).trans (List.map_id _)
  show (iv (dA a)).toNat = a
  show ((a : Int)).toNat = a
  omega
theorem map_unS (L : List Sta) : (L.map dSt).map unS = L := by
  rw [List.map_map]
  exact (List.map_congr_left fun s _ => unS_dSt s).trans (List.map_id _)
/-- all behind a move are there -/
def cloB (t : Tr) (L : List Sta) (u : Sta) : Bool := (moves t u).all fun k => decide (nxt u k ∈ L)
def trapB (t : Tr) (s : Sta) (L : List Sta) : Bool := (asc L && (decide (s ∈ L) && !(L.any (done t)))) && L.all (cloB t L)
def trapD (t : Tr) (s : Sta) : D → Bool
  | .tup es => es.all (stB t) && trapB t s (es.map unS)
  | _ => false
theorem trap_L {t : Tr} (s : Sta) {L : List Sta} (h : (L.map dSt).all (stB t) = true) : trapD t s (.tup (L.map dSt)) = trapB t s L := by
  simp only [trapD, h, map_unS, Bool.true_and]
theorem nin_rowsT (s : Sta) (rows : List Sta) : cmpD .NotIn (dSt s) (.tup (rows.map dSt)) = some (!decide (s ∈ rows)) := nin_rows s rows
theorem in_rowsT (s : Sta) (rows : List Sta) : cmpD .In (dSt s) (.tup (rows.map dSt)) = some (decide (s ∈ rows)) := in_rows s rows
section
variable (n m : Nat) (t : Tr) (s : Sta) (d : D) (b : BS) (h : Smp (m + 3) d) (ht : TOk t) (o : Ok t s)
include h ht o
theorem is_trap_ok : call (n + 3) 13 [dTr t, dSt s, d] b = some (.bl (trapD t s d), b) := by
  refine call_eq (fd := t_is_trap.fd) rfl rfl _ rfl _ _ _ ?_
  have htl : t.length ≤ 100 := by have := ht.few; omega
  cases d with
  | tup es =>
    have hz := h.1
    refine ⟨_, rfl, _, rfl, _, rfl, _, rfl, br_t rfl ?_⟩
    refine .inr ⟨_, rfl, _, rfl, ?_⟩
    refine lc_self (cl := ⟨call (n + 2), conOf C⟩) es (fun d => .bl (stB t d)) (fun d hd => ⟨_, rfl, _, rfl, _, rfl, _, _, is_state_ok n (m) t d b (h.2 d hd) htl, rfl, rfl⟩) h.1 ?_
    refine ⟨_, all_map es _, _, rfl, _, rfl, fun h2 => ?_, fun h2 => ?_⟩
    · have h2 : es.all (stB t) = false := (Bool.not_eq_true' _).mp h2
      exact ⟨by simp [trapD, h2], rfl⟩
    · have h2 : es.all (stB t) = true := (Bool.not_eq_false' _).mp h2
      obtain ⟨L, rfl, hL⟩ := states_of h2
      rw [trap_L s h2]
      rw [List.length_map] at hz
      have fin : ∀ x3 x4 : Option (D × Bool), asc L = true → s ∈ L → L.any (done t) = false → wss ⟨call (n + 2), conOf C⟩ 1000000 (b_is_trap.drop 2) [some (dTr t, false), some (dSt s, false), some (.tup (L.map dSt), false), x3, x4] b fun r => match r with
          | (.ret d, _, b') => d = .bl (trapB t s L) ∧ b' = b
          | (.nxt, _, b') => D.non = .bl (trapB t s L) ∧ b' = b
          | _ => False := by
        intro x3 x4 a1 a2 a3
        refine .inr ⟨_, rfl, _, rfl, ?_⟩
        refine for_pre L dSt (fun pre e bb => bb = b ∧ ∃ x3 x4, pre.all (cloB t L) = true ∧ e = [some (dTr t, false), some (dSt s, false), some (.tup (L.map dSt), false), x3, x4]) ⟨rfl, _, _, rfl, rfl⟩ (fun pre u rest env bb hd hi => ?_) fun env bb hi => ?_
        · obtain ⟨rfl, x3, x4, hp, rfl⟩ := hi
          have ou := hL u (by rw [hd]; simp)
          have hul : u.length ≤ 100 := by have := ou.len; omega
          have hml := moves_len t u
          refine ⟨_, rfl, ?_⟩
          refine .inr ⟨_, rfl, _, rfl, _, _, can_move_ok n t u _ ou.len hul, _, rfl, ?_⟩
          refine lc_map (cl := ⟨call (n + 2), conOf C⟩) (moves t u) dA (fun k => .bl (decide (nxt u k ∈ L))) (fun k hk => ?_) (le_size (by omega)) ?_
          · exact ⟨_, rfl, _, rfl, _, rfl, _, rfl, _, _, state_behind_ok (n + 1) t u _ hul k (mem_moves_lt hk), _, rfl, _, in_rowsT _ _, rfl, rfl⟩
          · refine ⟨_, all_map (moves t u) _, _, rfl, _, rfl, fun h3 => ?_, fun h3 => ?_⟩
            · have h3 : cloB t L u = false := (Bool.not_eq_true' _).mp h3
              refine ⟨?_, rfl⟩
              have : L.all (cloB t L) = false := by
                rw [List.all_eq_false]
                exact ⟨u, by rw [hd]; simp, by rw [h3]; simp⟩
              simp [trapB, this]
            · have h3 : cloB t L u = true := (Bool.not_eq_false' _).mp h3
              exact ⟨rfl, _, _, by rw [List.all_append, hp]; simp [h3], rfl⟩
        · obtain ⟨rfl, x3, x4, hp, rfl⟩ := hi
          refine ⟨?_, rfl⟩
          simp [trapB, a1, a2, a3, hp]
      refine ⟨_, rfl, _, _, is_ascending_ok (n + 1) L b hz, _, rfl, _, rfl, ?_⟩
      cases e1 : asc L with
      | false => exact br_f rfl ⟨_, rfl, br_t rfl ⟨by simp [trapB, e1], rfl⟩⟩
      | true =>
        refine br_t rfl ?_
        refine ⟨_, rfl, _, rfl, _, nin_rowsT _ _, _, rfl, ?_⟩
        by_cases e2 : s ∈ L
        · refine br_t (by simp [goOn, e2]) ?_
          refine .inr ⟨_, rfl, _, rfl, ?_⟩
          refine lc_map (cl := ⟨call (n + 2), conOf C⟩) L dSt (fun u => .bl (done t u)) (fun u hu => ?_) hz ?_
          · have ou := hL u hu
            exact ⟨_, rfl, _, rfl, _, rfl, _, _, is_through_ok (n + 1) t u _ ou.len (by have := ou.len; omega), rfl, rfl⟩
          · refine ⟨_, any_map L _, _, rfl, fun h3 => ?_, fun h3 => ?_⟩
            · have h3 : L.any (done t) = true := h3
              exact ⟨by simp [trapB, h3], rfl⟩
            · exact fin _ _ e1 e2 h3
        · refine br_f (by simp [goOn, e2]) ⟨_, rfl, br_t (by simp [e2]) ⟨by simp [trapB, e2], rfl⟩⟩
  | bl k => exact ⟨_, rfl, _, rfl, _, rfl, _, rfl, br_f rfl ⟨_, rfl, br_t rfl ⟨rfl, rfl⟩⟩⟩
  | int k => exact ⟨_, rfl, _, rfl, _, rfl, _, rfl, br_f rfl ⟨_, rfl, br_t rfl ⟨rfl, rfl⟩⟩⟩
  | non => exact ⟨_, rfl, _, rfl, _, rfl, _, rfl, br_f rfl ⟨_, rfl, br_t rfl ⟨rfl, rfl⟩⟩⟩
  | str x => exact ⟨_, rfl, _, rfl, _, rfl, _, rfl, br_f rfl ⟨_, rfl, br_t rfl ⟨rfl, rfl⟩⟩⟩
  | lst x => exact ⟨_, rfl, _, rfl, _, rfl, _, rfl, br_f rfl ⟨_, rfl, br_t rfl ⟨rfl, rfl⟩⟩⟩
  | _ => exact h.elim
end
end Lw

namespace Lw
open PySem PySem.Spec PyProof.Rows L2 En
theorem dI_Pl (l : List Int) : Pl 2 (dI l) := by
  intro x hx
  obtain ⟨i, _, rfl⟩ := List.mem_map.mp hx
  trivial
theorem in_every {t : Tr} {E : List Sta} (hE : ∀ u, u ∈ E ↔ Ok t u) (ns : List Int) : cmpD .In (.tup (ns.map .int)) (.lst (E.map dSt)) = some (stB t (.tup (ns.map .int))) :=
  in_l (n := 2) _ _ _ (by decide) (dI_Pl ns) (dSts_Pl E) (by
    rw [List.mem_map]
    constructor
    · intro h
      obtain ⟨u, e, o⟩ := stB_Ok h
      exact ⟨u, (hE u).mpr o, e.symm⟩
    · rintro ⟨u, hu, e⟩
      rw [← e]
      exact stB_iff.mpr ((hE u).mp hu))
theorem any_not {α : Type} (L : List α) (p : α → Bool) : (L.any fun a => !p a) = !L.all p := by
  induction L with
  | nil => rfl
  | cons a L ih => rw [List.any_cons, List.all_cons, ih, Bool.not_and]
section
variable (n m : Nat) (t : Tr) (s : Sta) (d : D) (E : List Sta) (b : BS) (h : Smp (m + 3) d) (ht : TOk t) (hE : ∀ u, u ∈ E ↔ Ok t u)
include h ht hE
theorem law_is_trap_ok : call (n + 3) 29 [dTr t, dSt s, d, .lst (E.map dSt)] b = some (.bl (trapD t s d), b) := by
  refine call_eq (fd := t__law_is_trap.fd) rfl rfl _ rfl _ _ _ ?_
  have htl : t.length ≤ 100 := by have := ht.few; omega
  cases d with
  | tup es =>
    have hz := h.1
    refine ⟨_, rfl, _, rfl, _, rfl, _, rfl, br_t rfl ?_⟩
    refine .inr ⟨_, rfl, _, rfl, ?_⟩
    refine lc_self (cl := ⟨call (n + 2), conOf C⟩) es (fun d => .bl (stB t d)) (fun e he => ⟨_, rfl, ?_⟩) h.1 ?_
    · have hs := h.2 e he
      cases e with
      | tup xs =>
        refine ⟨_, rfl, _, rfl, _, rfl, br_t rfl ?_⟩
        refine .inr ⟨_, rfl, _, rfl, ?_⟩
        refine lc_self (cl := ⟨call (n + 2), conOf C⟩) xs (fun d => .bl (intB d)) (fun x hx => ⟨_, rfl, int_we m x _ _ 4 rfl (hs.2 x hx)⟩) hs.1 ?_
        refine ⟨_, all_map xs _, _, rfl, ?_⟩
        cases e2 : xs.all intB with
        | true =>
          obtain ⟨ns, rfl⟩ := ints_of e2
          refine br_t rfl ?_
          exact ⟨_, rfl, _, rfl, _, in_every hE ns, rfl, rfl⟩
        | false =>
          refine br_f rfl ⟨?_, rfl⟩
          have : stB t (.tup xs) = false := by
            cases e3 : stB t (.tup xs) with
            | false => rfl
            | true =>
              obtain ⟨u, e4, _⟩ := stB_Ok e3
              simp only [dSt, D.tup.injEq] at e4
              rw [e4, map_dA, all_intB] at e2
              cases e2
          rw [this]
      | bl k => exact ⟨_, rfl, _, rfl, _, rfl, br_f rfl ⟨rfl, rfl⟩⟩
      | int k => exact ⟨_, rfl, _, rfl, _, rfl, br_f rfl ⟨rfl, rfl⟩⟩
      | non => exact ⟨_, rfl, _, rfl, _, rfl, br_f rfl ⟨rfl, rfl⟩⟩
      | str x => exact ⟨_, rfl, _, rfl, _, rfl, br_f rfl ⟨rfl, rfl⟩⟩
      | lst x => exact ⟨_, rfl, _, rfl, _, rfl, br_f rfl ⟨rfl, rfl⟩⟩
      | _ => exact hs.elim
    refine ⟨_, all_map es _, _, rfl, _, rfl, fun h2 => ?_, fun h2 => ?_⟩
    · have h2 : es.all (stB t) = false := (Bool.not_eq_true' _).mp h2
      exact ⟨by simp [trapD, h2], rfl⟩
    · have h2 : es.all (stB t) = true := (Bool.not_eq_false' _).mp h2
      obtain ⟨L, rfl, hL⟩ := states_of h2
      rw [trap_L s h2]
      rw [List.length_map] at hz
      refine .inr ⟨_, rfl, _, lenTu L dSt, _, rfl, _, rng_pred L.length hz, ?_⟩
      refine lc_map (cl := ⟨call (n + 2), conOf C⟩) (List.range (L.length - 1)) (fun i : Nat => .int (i : Int)) (fun k => .bl (!ltS (L.getD k []) (L.getD (k + 1) []))) (fun k hk => ?_) (by rw [List.length_range]; omega) ?_
      · have hk : k < L.length - 1 := by simpa using hk
        exact ⟨_, rfl, _, rfl, _, rfl, _, idx_st L k (by omega), _, rfl, _, rfl, _, rfl, _, idx_st L (k + 1) (by omega), _, ge_dSt _ _, rfl, rfl⟩
      refine ⟨_, any_map (List.range (L.length - 1)) _, _, rfl, ?_⟩
      rw [any_not, show ((List.range (L.length - 1)).all fun k => ltS (L.getD k []) (L.getD (k + 1) [])) = asc L from rfl]
      cases e1 : asc L with
      | false => exact br_f rfl ⟨_, rfl, br_t rfl ⟨by simp [trapB, e1], rfl⟩⟩
      | true =>
        refine br_t rfl ?_
        refine ⟨_, rfl, _, rfl, _, nin_rowsT _ _, _, rfl, ?_⟩
        by_cases e2 : s ∈ L
        · refine br_t (by simp [goOn, e2]) ?_
          refine .inr ⟨_, rfl, _, rfl, ?_⟩
          refine lc_map (cl := ⟨call (n + 2), conOf C⟩) L dSt (fun u => .bl (done t u)) (fun u hu => ?_) hz ?_
          · have ou := hL u hu
            exact ⟨_, rfl, _, rfl, _, rfl, _, _, law_done_ok (n + 1) t u _ ou.len (by have := ou.len; omega), rfl, rfl⟩
          · refine ⟨_, any_map L _, _, rfl, fun h3 => ?_, fun h3 => ?_⟩
            · have h3 : L.any (done t) = true := h3
              exact ⟨by simp [trapB, h3], rfl⟩
            · have h3 : L.any (done t) = false := h3
              refine .inr ⟨_, rfl, _, rfl, ?_⟩
              refine lc_map (cl := ⟨call (n + 2), conOf C⟩) L dSt (fun u => .bl (cloB t L u)) (fun u hu => ?_) hz ?_
              · have ou := hL u hu
                have hul : u.length ≤ 100 := by have := ou.len; omega
                have hml := moves_len t u
                refine ⟨_, rfl, .inr ⟨_, rfl, _, rfl, _, _, law_moves_ok n t u _ ou.len hul, _, rfl, ?_⟩⟩
                refine lc_map (cl := ⟨call (n + 2), conOf C⟩) (moves t u) dA (fun k => .bl (decide (nxt u k ∈ L))) (fun k hk => ?_) (le_size (by omega)) ?_
                · exact ⟨_, rfl, _, rfl, _, rfl, _, _, law_next_ok (n + 1) u _ hul k (mem_moves_lt hk), _, rfl, _, in_rowsT _ _, rfl, rfl⟩
                · exact ⟨_, all_map (moves t u) _, rfl, rfl⟩
              · refine ⟨_, all_map L _, ?_, rfl⟩
                simp [trapB, e1, e2, h3]
        · refine br_f (by simp [goOn, e2]) ⟨_, rfl, br_t (by simp [e2]) ⟨by simp [trapB, e2], rfl⟩⟩
  | bl k => exact ⟨_, rfl, _, rfl, _, rfl, _, rfl, br_f rfl ⟨_, rfl, br_t rfl ⟨rfl, rfl⟩⟩⟩
  | int k => exact ⟨_, rfl, _, rfl, _, rfl, _, rfl, br_f rfl ⟨_, rfl, br_t rfl ⟨rfl, rfl⟩⟩⟩
  | non => exact ⟨_, rfl, _, rfl, _, rfl, _, rfl, br_f rfl ⟨_, rfl, br_t rfl ⟨rfl, rfl⟩⟩⟩
  | str x => exact ⟨_, rfl, _, rfl, _, rfl, _, rfl, br_f rfl ⟨_, rfl, br_t rfl ⟨rfl, rfl⟩⟩⟩
  | lst x => exact ⟨_, rfl, _, rfl, _, rfl, _, rfl, br_f rfl ⟨_, rfl, br_t rfl ⟨rfl, rfl⟩⟩⟩
  | _ => exact h.elim
end
/-! ### all states -/
theorem law_flat_ok (n : Nat) (LL : List (List D)) (b : BS) (hz : LL.flatten.length ≤ 100000) : call (n + 1) 16 [.lst (LL.map .lst)] b = some (.lst LL.flatten, b) := by
  refine call_eq (fd := t__law_flat.fd) rfl rfl _ rfl _ _ _ ?_
  refine ⟨(Nat.le_of_ble_eq_true rfl), (Nat.le_of_ble_eq_true rfl), ?_⟩
  refine .inr ⟨_, rfl, _, rfl, ?_⟩
  refine for_pre LL D.lst (fun pre e bb => bb = b ∧ ∃ f0 x2, e = [some (.lst (LL.map .lst), f0), some (.lst pre.flatten, true), x2]) ⟨rfl, _, _, rfl⟩ (fun pre l rest env bb hd hi => ?_) fun env bb hi => ?_
  · obtain ⟨rfl, f0, x2, rfl⟩ := hi
    have hl : pre.flatten.length + l.length ≤ 100000 := by
      rw [hd, List.flatten_append, List.flatten_cons, List.length_append, List.length_append] at hz
      omega
    refine ⟨_, rfl, _, rfl, _, _, rfl, rfl, le_size hl, rfl, ?_⟩
    rw [show pre.flatten ++ l = (pre ++ [l]).flatten by simp]
    exact ⟨_, _, rfl⟩
  · obtain ⟨rfl, f0, x2, rfl⟩ := hi
    exact ⟨_, rfl, rfl, rfl⟩
def grd : List (List Int) → List Sta
  | [] => [[]]
  | r :: R => (grd R).flatMap fun row => (List.range (r.length + 1)).map fun a => row ++ [a]
theorem mem_grd : ∀ (R : List (List Int)) (s : Sta), s ∈ grd R ↔ s.length = R.length ∧ ∀ k, k < R.length → ps s k ≤ (R.reverse.getD k []).length
  | [], s => by simp [grd]
  | r :: R, s => by
    rw [grd, List.mem_flatMap]
    have hr : ∀ k, k < R.length → ((r :: R).reverse.getD k []) = R.reverse.getD k [] := fun k hk => by
      rw [List.reverse_cons, List.getD_eq_getElem?_getD, List.getD_eq_getElem?_getD, List.getElem?_append_left (by simpa using hk)]
    have hr2 : (r :: R).reverse.getD R.length [] = r := by
      rw [List.reverse_cons, List.getD_eq_getElem?_getD, List.getElem?_append_right (by simp)]
      simp
    constructor
    · rintro ⟨row, h1, h2⟩
      obtain ⟨a, ha, rfl⟩ := List.mem_map.mp h2
      have ha : a < r.length + 1 := by simpa using ha
      rw [mem_grd R row] at h1
      refine ⟨by simp [h1.1], fun k hk => ?_⟩
      rw [List.length_cons] at hk
      unfold ps
      by_cases hk2 : k < R.length
      · rw [hr k hk2, List.getD_eq_getElem?_getD, List.getElem?_append_left (by omega)]
        have := h1.2 k hk2
        unfold ps at this
        rw [List.getD_eq_getElem?_getD] at this
        exact this
      · have : k = R.length := by omega
        subst this
        rw [hr2, List.getD_eq_getElem?_getD, ← h1.1, List.getElem?_append_right (by omega)]
        simp
        omega
    · rintro ⟨h1, h2⟩
      have hne : s ≠ [] := fun e => by rw [e] at h1; simp at h1
      obtain ⟨row, a, rfl⟩ := (List.eq_nil_or_concat s).resolve_left hne
      rw [List.concat_eq_append] at *
      rw [List.length_append, List.length_singleton, List.length_cons] at h1
      have h1 : row.length = R.length := by omega
      refine ⟨row, (mem_grd R row).mpr ⟨h1, fun k hk => ?_⟩, List.mem_map.mpr ⟨a, ?_, rfl⟩⟩
      · have := h2 k (by rw [List.length_cons]; omega)
        rw [hr k hk] at this
        unfold ps at this ⊢
        rw [List.getD_eq_getElem?_getD, List.getElem?_append_left (by omega)] at this
        rw [List.getD_eq_getElem?_getD]
        exact this
      · have := h2 R.length (by rw [List.length_cons]; omega)
        rw [hr2] at this
        unfold ps at this
        rw [List.getD_eq_getElem?_getD, ← h1, List.getElem?_append_right (by omega)] at this
        simp at this
        simp
        omega
theorem grd_len : ∀ (R : List (List Int)), (∀ r ∈ R, r.length ≤ 4) → (grd R).length ≤ 5 ^ R.length
  | [], _ => by simp [grd]
  | r :: R, h => by
    have ih := grd_len R fun x hx => h x (List.mem_cons_of_mem _ hx)
    have h1 := h r (by simp)
    have h2 : ∀ G : List Sta, (G.flatMap fun row => (List.range (r.length + 1)).map fun a => row ++ [a]).length = G.length * (r.length + 1) := fun G => by
      induction G with
      | nil => simp
      | cons g G ih2 => rw [List.flatMap_cons, List.length_append, ih2, List.length_map, List.length_range, List.length_cons, Nat.succ_mul]; omega
    rw [grd, h2, List.length_cons, Nat.pow_succ]
    exact Nat.mul_le_mul ih (by omega)
def okS (t : Tr) (s : Sta) : Bool := decide (distI (stands t s) = (stands t s).length)
theorem mem_every {t : Tr} {s : Sta} : s ∈ (grd t.reverse).filter (okS t) ↔ Ok t s := by
  rw [List.mem_filter, mem_grd, List.reverse_reverse, List.length_reverse]
  unfold okS
  rw [decide_eq_true_eq, dist_nodup]
  constructor
  · rintro ⟨⟨h1, h2⟩, h3⟩
    refine ⟨h1.symm, fun k hk => h2 k (by omega), fun i j hi hj hij li lj e => ?_⟩
    unfold stands at h3
    exact hij (nodup_map_inj h3 i (List.mem_filter.mpr ⟨by simpa using hi, li⟩) j (List.mem_filter.mpr ⟨by simpa using hj, lj⟩) e)
  · intro o
    exact ⟨⟨o.len.symm, fun k hk => o.le k (by rw [← o.len]; exact hk)⟩, o.nodup⟩
theorem flatten_len {α : Type} (G : List Sta) (f : Sta → List α) (c : Nat) (h : ∀ g ∈ G, (f g).length ≤ c) : (G.map f).flatten.length ≤ G.length * c := by
  induction G with
  | nil => simp
  | cons g G ih =>
    rw [List.map_cons, List.flatten_cons, List.length_append, List.length_cons, Nat.succ_mul]
    have := h g (by simp)
    have := ih fun x hx => h x (List.mem_cons_of_mem _ hx)
    omega
theorem law_every_ok (n : Nat) (t : Tr) (b : BS) (ht : TOk t) :
    ∃ E : List Sta, call (n + 2) 30 [dTr t] b = some (.lst (E.map dSt), b) ∧ (∀ u, u ∈ E ↔ Ok t u) ∧ E.length ≤ 125 := by
  have hsh : ∀ r ∈ t, r.length ≤ 4 := fun r hr => (ht.short r hr).2
  have htl := ht.few.2
  have small : ∀ R : List (List Int), (∀ r ∈ R, r ∈ t) → R.length ≤ 3 → (grd R).length ≤ 125 := fun R h1 h2 =>
    Nat.le_trans (grd_len R fun r hr => hsh r (h1 r hr)) (Nat.le_trans (Nat.pow_le_pow_right (by decide) h2) (by decide))
  refine ⟨(grd t.reverse).filter (okS t), ?_, fun u => mem_every, Nat.le_trans (List.length_filter_le _ _) (small _ (fun r hr => List.mem_reverse.mp hr) (by simpa using htl))⟩
  refine call_eq (fd := t__law_every.fd) rfl rfl _ rfl _ _ _ ?_
  refine ⟨(Nat.le_of_ble_eq_true rfl), (Nat.le_of_ble_eq_true rfl), (Nat.le_of_ble_eq_true rfl), ?_⟩
  refine .inr ⟨_, rfl, _, rfl, ?_⟩
  refine for_pre t dR (fun pre e bb => bb = b ∧ ∃ f1 x2 x3 x4, e = [some (dTr t, false), some (.lst ((grd pre.reverse).map dSt), f1), x2, x3, x4]) ⟨rfl, _, _, _, _, rfl⟩ (fun pre r rest env bb hd hi => ?_) fun env bb hi => ?_
  · obtain ⟨rfl, f1, x2, x3, x4, rfl⟩ := hi
    have hrt : r ∈ t := by rw [hd]; simp
    have hr4 := hsh r hrt
    have hpl : pre.length < t.length := by rw [hd]; simp
    have hsm := small pre.reverse (fun r hr => by rw [hd]; exact List.mem_append_left _ (List.mem_reverse.mp hr)) (by rw [List.length_reverse]; omega)
    refine ⟨_, rfl, ?_⟩
    refine .inr ⟨_, rfl, _, rfl, ?_⟩
    refine lc_map (cl := ⟨call (n + 1), conOf C⟩) (grd pre.reverse) dSt (fun row => .lst ((List.range (r.length + 1)).map fun a => dSt (row ++ [a]))) (fun row hrow => ?_) (le_size (by omega)) ?_
    · have hrl := ((mem_grd _ row).mp hrow).1
      rw [List.length_reverse] at hrl
      refine ⟨_, rfl, .inr ⟨_, rfl, _, lenR r, _, rfl, _, nat_rng (r.length + 1) (by omega), ?_⟩⟩
      refine lc_map (cl := ⟨call (n + 1), conOf C⟩) (List.range (r.length + 1)) (fun i : Nat => .int (i : Int)) (fun a => dSt (row ++ [a])) (fun a ha => ?_) (range_size (by omega)) ?_
      · exact ⟨_, rfl, _, rfl, _, rfl, (Nat.le_of_ble_eq_true rfl), _, addS row [a] (by simp only [List.length_singleton]; omega), rfl, rfl⟩
      · exact ⟨rfl, rfl⟩
    · have hfl : ((grd pre.reverse).map fun row => (List.range (r.length + 1)).map fun a => dSt (row ++ [a])).flatten.length ≤ 100000 := by
        have := flatten_len (grd pre.reverse) (fun row => (List.range (r.length + 1)).map fun a => dSt (row ++ [a])) 5 fun g _ => by rw [List.length_map, List.length_range]; omega
        omega
      have hf := law_flat_ok n ((grd pre.reverse).map fun row => (List.range (r.length + 1)).map fun a => dSt (row ++ [a])) bb hfl
      rw [List.map_map] at hf
      refine ⟨_, _, hf, (Nat.le_of_ble_eq_true rfl), rfl, ?_⟩
      have em : ((grd pre.reverse).map fun row => (List.range (r.length + 1)).map fun a => dSt (row ++ [a])).flatten = (grd (pre ++ [r]).reverse).map dSt := by
        rw [List.reverse_append]
        show _ = List.map dSt (grd (r :: pre.reverse))
        rw [grd, List.map_flatMap, List.flatMap_def]
        congr 1
        refine List.map_congr_left fun row _ => ?_
        rw [List.map_map]; rfl
      rw [em]
      exact ⟨_, _, _, _, rfl⟩
  · obtain ⟨rfl, f1, x2, x3, x4, rfl⟩ := hi
    refine .inr ⟨_, rfl, _, rfl, ?_⟩
    have hsm := small t.reverse (fun r hr => List.mem_reverse.mp hr) (by rw [List.length_reverse]; omega)
    refine lc_filter (cl := ⟨call (n + 1), conOf C⟩) (grd t.reverse) dSt dSt (okS t) (fun u hu => ?_) (le_size (by omega)) ?_
    · have hul := ((mem_grd _ u).mp hu).1
      rw [List.length_reverse] at hul
      have hsl := stands_len t u
      exact ⟨_, rfl, _, rfl, _, rfl, _, _, law_stands_ok n t u _ hul.symm (by omega), _, lenset_l _ (by omega), _, rfl, _, rfl, _, _, law_stands_ok n t u _ hul.symm (by omega), _, lenL (stands t u) D.int, _, eq_nat _ _, _, rfl, rfl, rfl, fun _ => ⟨_, rfl, rfl, rfl⟩⟩
    · exact ⟨rfl, rfl⟩
end Lw

namespace Lw
open PySem PySem.Spec PyProof.Rows L2 En
def blkStep : List CS := [.set 6 (.ife (.cmp .Gt (.var 5) (.cst (.int 0))) (.idx (.var 4) (.call 19 (.cons (.var 1) (.cons (.bi .len (.cons (.var 4) .nil)) .nil)))) (.bin .Mult (.tup (.cons (.cst (.int 0)) .nil)) (.bi .len (.cons (.var 3) .nil)))), .set 7 (.call 25 (.cons (.var 3) (.cons (.var 6) .nil))), .set 8 (.lc (.nm 9) (.it (.var 7)) (.cons (.bi .any (.cons (.lc (.nm 10) (.it (.call 25 (.cons (.var 3) (.cons (.var 9) .nil)))) .nil (.call 26 (.cons (.var 3) (.cons (.var 10) .nil))) [10]) .nil)) .nil) (.var 9) [9]), .ife (.not (.call 20 (.cons (.call 8 (.cons (.var 3) (.cons (.var 6) .nil))) (.cons (.bi .tuple (.cons (.bi .sorted (.cons (.var 7) .nil)) .nil)) .nil)))) [.ret (.cst (.bl false))] [], .par [(.nm 11), (.nm 9)] (.cons (.lst .nil) (.cons (.var 6) .nil)), .forr (.nm 12) (.rng (.cons (.cst (.int 30)) .nil)) [.set 13 (.lc (.nm 14) (.it (.call 23 (.cons (.var 3) (.cons (.var 9) .nil)))) (.cons (.cmp .In (.call 24 (.cons (.var 9) (.cons (.var 14) .nil))) (.var 8)) .nil) (.var 14) [14]), .ife (.cmp .Gt (.bi .len (.cons (.var 13) .nil)) (.cst (.int 0))) [.app 11 (.idx (.var 13) (.cst (.int 0))), .set 9 (.call 24 (.cons (.var 9) (.cons (.idx (.var 13) (.cst (.int 0))) .nil)))] []], .par [(.nm 15), (.nm 16)] (.cons (.call 10 (.cons (.var 3) (.cons (.var 6) .nil))) (.cons (.call 12 (.cons (.var 3) (.cons (.var 6) .nil))) .nil)), .ife (.not (.call 20 (.cons (.tup (.cons (.var 15) (.cons (.var 16) .nil))) (.cons (.ife (.cmp .In (.var 6) (.var 8)) (.tup (.cons (.bi .tuple (.cons (.var 11) .nil)) (.cons (.cst (.non)) .nil))) (.tup (.cons (.cst (.non)) (.cons (.bi .tuple (.cons (.bi .sorted (.cons (.var 7) .nil)) .nil)) .nil)))) .nil)))) [.ret (.cst (.bl false))] [], .ife (.not (.call 20 (.cons (.call 14 (.cons (.var 3) (.cons (.var 6) .nil))) (.cons (.bi .tuple (.cons (.lc (.nm 14) (.it (.call 23 (.cons (.var 3) (.cons (.var 6) .nil)))) (.cons (.cmp .In (.call 24 (.cons (.var 6) (.cons (.var 14) .nil))) (.var 8)) .nil) (.var 14) [14]) .nil)) .nil)))) [.ret (.cst (.bl false))] [], .par [(.nm 9), (.nm 17), (.nm 18)] (.cons (.var 6) (.cons (.lst .nil) (.cons (.cst (.non)) .nil))), .forr (.nm 12) (.rng (.cons (.call 19 (.cons (.var 1) (.cons (.cst (.int 9)) .nil))) .nil)) [.set 13 (.call 23 (.cons (.var 3) (.cons (.var 9) .nil))), .ife (.cmp .Gt (.bi .len (.cons (.var 13) .nil)) (.cst (.int 0))) [.app 17 (.idx (.var 13) (.call 19 (.cons (.var 1) (.cons (.bi .len (.cons (.var 13) .nil)) .nil)))), .set 9 (.call 24 (.cons (.var 9) (.cons (.idx (.var 17) (.neg (.cst (.int 1)))) .nil))), .set 18 (.ife (.bop .And (.cons (.cmp .Is (.var 18) (.cst (.non))) (.cons (.cmp .NotIn (.var 9) (.var 8)) .nil))) (.bin .Sub (.bi .len (.cons (.var 17) .nil)) (.cst (.int 1))) (.var 18))] []], .ife (.bop .And (.cons (.cmp .In (.var 6) (.var 8)) (.cons (.not (.call 20 (.cons (.call 15 (.cons (.var 3) (.cons (.var 6) (.cons (.bi .tuple (.cons (.var 17) .nil)) .nil)))) (.cons (.var 18) .nil)))) .nil))) [.ret (.cst (.bl false))] [], .set 9 (.var 6), .forr (.nm 12) (.rng (.cons (.bi .sum (.cons (.lc (.nm 19) (.it (.var 3)) .nil (.bi .len (.cons (.var 19) .nil)) [19]) .nil)) .nil)) [.set 13 (.ife (.cmp .In (.var 6) (.var 8)) (.call 14 (.cons (.var 3) (.cons (.var 9) .nil))) (.tup .nil)), .ife (.cmp .Gt (.bi .len (.cons (.var 13) .nil)) (.cst (.int 0))) [.set 9 (.call 24 (.cons (.var 9) (.cons (.idx (.var 13) (.call 19 (.cons (.var 1) (.cons (.bi .len (.cons (.var 13) .nil)) .nil)))) .nil)))] []], .ife (.bop .And (.cons (.cmp .In (.var 6) (.var 8)) (.cons (.not (.call 26 (.cons (.var 3) (.cons (.var 9) .nil)))) .nil))) [.ret (.cst (.bl false))] [], .set 20 (.ife (.cmp .IsNot (.var 15) (.cst (.non))) (.var 15) (.bi .tuple (.cons (.var 17) .nil))), .set 21 (.lst (.cons (.var 20) (.cons (.slc (.var 20) (.so (.cst (.int 1))) .no) (.cons (.rev (.var 20)) (.cons (.bin .Add (.var 20) (.slc (.var 20) .no (.so (.cst (.int 1))))) (.cons (.bi .tuple (.cons (.var 17) .nil)) (.cons (.tup (.cons (.cst (.bl true)) .nil)) (.cons (.cst (.non)) (.cons (.cst (.int 0)) (.cons (.tup .nil) .nil)))))))))), .forr (.nm 22) (.it (.bin .Add (.var 21) (.lc (.nm 12) (.rng (.cons (.cst (.int 4)) .nil)) .nil (.call 27 (.cons (.var 1) (.cons (.var 20) .nil))) [12]))) [.ife (.not (.call 20 (.cons (.call 11 (.cons (.var 3) (.cons (.var 6) (.cons (.var 22) .nil)))) (.cons (.call 28 (.cons (.var 3) (.cons (.var 6) (.cons (.var 22) .nil)))) .nil)))) [.ret (.cst (.bl false))] []], .set 23 (.bi .tuple (.cons (.bi .sorted (.cons (.lc (.nm 10) (.it (.var 4)) (.cons (.not (.bi .any (.cons (.lc (.nm 24) (.it (.call 25 (.cons (.var 3) (.cons (.var 10) .nil)))) .nil (.call 26 (.cons (.var 3) (.cons (.var 24) .nil))) [24]) .nil))) .nil) (.var 10) [10]) .nil)) .nil)), .set 20 (.ife (.cmp .IsNot (.var 16) (.cst (.non))) (.var 16) (.var 23)), .forr (.nm 22) (.it (.bin .Add (.lst (.cons (.var 20) (.cons (.var 23) (.cons (.slc (.var 20) (.so (.cst (.int 1))) .no) (.cons (.rev (.var 20)) (.cons (.bin .Add (.var 20) (.slc (.var 20) .no (.so (.cst (.int 1))))) (.cons (.bi .tuple (.cons (.bi .sorted (.cons (.var 7) .nil)) .nil)) (.cons (.tup (.cons (.var 6) .nil)) (.cons (.cst (.non)) (.cons (.cst (.int 0)) (.cons (.tup .nil) .nil))))))))))) (.lc (.nm 12) (.rng (.cons (.cst (.int 4)) .nil)) .nil (.call 27 (.cons (.var 1) (.cons (.var 20) .nil))) [12]))) [.set 11 (.call 29 (.cons (.var 3) (.cons (.var 6) (.cons (.var 22) (.cons (.var 4) .nil))))), .ife (.bop .Or (.cons (.not (.call 20 (.cons (.call 13 (.cons (.var 3) (.cons (.var 6) (.cons (.var 22) .nil)))) (.cons (.var 11) .nil)))) (.cons (.bop .And (.cons (.var 11) (.cons (.cmp .In (.var 6) (.var 8)) .nil))) .nil))) [.ret (.cst (.bl false))] []], .ife (.not (.bi .all (.cons (.lc (.nm 14) (.it (.call 14 (.cons (.var 3) (.cons (.var 6) .nil)))) .nil (.cmp .In (.var 14) (.call 6 (.cons (.var 3) (.cons (.var 6) .nil)))) [14]) .nil))) [.ret (.cst (.bl false))] []]
/-- what stands while a state is looked at -/
structure Here (t : Tr) (E : List Sta) (s : Sta) (rows : List Sta) : Prop where
  tr : TrOk t
  every : ∀ u, u ∈ E ↔ Ok t u
  few : E.length ≤ 125
  ok : Ok t s
  fd : Fd t s rows
  all : ∀ u, u ∈ rows ↔ Reach t s u
theorem Here.three {t : Tr} {E : List Sta} {s : Sta} {rows : List Sta} (h : Here t E s rows) : s.length ≤ 3 := by have := h.ok.len; have := h.tr.few; omega
theorem Here.small {t : Tr} {E : List Sta} {s : Sta} {rows : List Sta} (h : Here t E s rows) : rows.length ≤ 512 := rows_few h.tr.tok h.fd.nd h.fd.ok
noncomputable def SS (t : Tr) (rows : List Sta) : List Sta := by
  classical
  exact rows.filter fun u => decide (Safe t u)
theorem mem_SS {t : Tr} {E : List Sta} {s : Sta} {rows : List Sta} (h : Here t E s rows) {u : Sta} : u ∈ SS t rows ↔ Reach t s u ∧ Safe t u := by
  unfold SS
  rw [List.mem_filter, h.all]
  simp
theorem in_SS {t : Tr} {E : List Sta} {s : Sta} {rows : List Sta} (h : Here t E s rows) : decide (s ∈ SS t rows) = sf t s := by
  rw [Bool.eq_iff_iff, decide_eq_true_eq, mem_SS h, sf_iff]
  exact ⟨fun z => z.2, fun z => ⟨.refl, z⟩⟩
noncomputable def tpv (t : Tr) (s : Sta) (rows : List Sta) : D := by
  classical
  exact if Safe t s then .non else .tup ((rows.mergeSort leS).map dSt)
theorem tpv_eq (t : Tr) (s : Sta) (rows : List Sta) : tpv t s rows = if sf t s = true then .non else .tup ((rows.mergeSort leS).map dSt) := by
  unfold tpv
  by_cases h : Safe t s
  · rw [if_pos h, if_pos (sf_iff.mpr h)]
  · rw [if_neg h, if_neg (fun z => h (sf_iff.mp z))]
theorem Sts_Nm {t : Tr} (ht : TOk t) {M : List Sta} (hM : ∀ u ∈ M, Ok t u) (hl : M.length ≤ 1000) : Nm 3 (.tup (M.map dSt)) := by
  refine ⟨by rw [List.length_map]; exact hl, fun x hx => ?_⟩
  obtain ⟨u, hu, rfl⟩ := List.mem_map.mp hx
  exact St_Nm ht (hM u hu)
theorem Sts_Smp {t : Tr} (ht : TOk t) (k : Nat) {M : List Sta} (hM : ∀ u ∈ M, Ok t u) (hl : M.length ≤ 1000) : Smp (3 + k) (.tup (M.map dSt)) := Nm_Smp 3 k _ (Sts_Nm ht hM hl)
theorem trap_not_safe {t : Tr} {s : Sta} {d : D} (h : trapD t s d = true) : sf t s = false := by
  cases d with
  | tup es =>
    simp only [trapD, Bool.and_eq_true] at h
    obtain ⟨L, rfl, hL⟩ := states_of h.1
    have h2 := h.2
    rw [map_unS] at h2
    simp only [trapB, Bool.and_eq_true, decide_eq_true_eq, Bool.not_eq_true'] at h2
    obtain ⟨⟨_, h3, h4⟩, h5⟩ := h2
    have key : ∀ u, Reach t s u → u ∈ L := fun u r => by
      induction r with
      | refl => exact h3
      | step _ hk ih =>
        have := List.all_eq_true.mp h5 _ ih
        unfold cloB at this
        have := List.all_eq_true.mp this _ hk
        simpa using this
    cases e : sf t s with
    | false => rfl
    | true =>
      obtain ⟨v, r, hd⟩ := sf_iff.mp e
      have := List.any_eq_false.mp h4 v (key v r)
      exact absurd hd this
  | _ => simp [trapD] at h
section
variable (t : Tr) (E : List Sta) (s : Sta) (rows : List Sta) (H : Here t E s rows)
include H
/-- the last look: trains that may move can move -/
theorem blk21 (b : BS) (x0 x1 x2 x4 x5 x7 x8 x9 x10 x11 x12 x13 x14 x15 x16 x17 x18 x19 x20 x21 x22 x23 x24 : Option (D × Bool)) (Q : Fl × En.Env × BS → Prop)
    (hQ : ∀ x14, Q (.nxt, [x0, x1, x2, some (dTr t, false), x4, x5, some (dSt s, false), x7, x8, x9, x10, x11, x12, x13, x14, x15, x16, x17, x18, x19, x20, x21, x22, x23, x24], b)) :
    wss ⟨call 29, conOf C⟩ 1000000 (blkStep.drop 21) [x0, x1, x2, some (dTr t, false), x4, x5, some (dSt s, false), x7, x8, x9, x10, x11, x12, x13, x14, x15, x16, x17, x18, x19, x20, x21, x22, x23, x24] b Q := by
  have h3 := H.three
  have hml := moves_len t s
  have hfl : (fit t s).length ≤ 3 := Nat.le_trans (List.length_filter_le _ _) (by omega)
  refine .inr ⟨_, rfl, _, rfl, _, _, may_move_ok 24 t s b H.tr.tok H.ok, _, rfl, ?_⟩
  refine lc_map (cl := ⟨call 29, conOf C⟩) (fit t s) dA (fun _ => .bl true) (fun k hk => ?_) (le_size (by omega)) ?_
  · refine ⟨_, rfl, _, rfl, _, rfl, _, rfl, _, _, can_move_ok 27 t s _ H.ok.len (by omega), _, inM_t _ _, ?_, rfl⟩
    rw [decide_eq_true (mem_mI.mpr ⟨k, (fit_mem hk).1, rfl⟩)]
  · exact ⟨_, all_map (fit t s) _, _, rfl, _, rfl, br_f (by simp) (hQ _)⟩
theorem blk20 (M K : List Sta) (hM : ∀ u ∈ M, Ok t u) (hMl : M.length ≤ 600) (hK : ∀ u ∈ K, Ok t u) (hKl : K.length ≤ 600) (b : BS) (hb : BOk b) (f4 f7 f8 : Bool) (x0 x2 x5 x9 x10 x11 x12 x13 x14 x15 x16 x17 x18 x19 x21 x22 x24 : Option (D × Bool)) (Q : Fl × En.Env × BS → Prop)
    (hQ : ∀ (b' : BS) (f4 : Bool) (x7 x8 x9 x10 x11 x12 x13 x14 x15 x16 x17 x18 x19 x20 x21 x22 x23 x24 : Option (D × Bool)), BOk b' → Q (.nxt, [x0, some (.box, false), x2, some (dTr t, false), some (.lst (E.map dSt), f4), x5, some (dSt s, false), x7, x8, x9, x10, x11, x12, x13, x14, x15, x16, x17, x18, x19, x20, x21, x22, x23, x24], b')) :
    wss ⟨call 29, conOf C⟩ 1000000 (blkStep.drop 20) [x0, some (.box, false), x2, some (dTr t, false), some (.lst (E.map dSt), f4), x5, some (dSt s, false), some (.lst (rows.map dSt), f7), some (.lst ((SS t rows).map dSt), f8), x9, x10, x11, x12, x13, x14, x15, x16, x17, x18, x19, some (.tup (M.map dSt), false), x21, x22, some (.tup (K.map dSt), false), x24] b Q := by
  have ht := H.tr.tok
  have h3 := H.three
  have hsm := H.small
  have hR : ∀ u ∈ rows.mergeSort leS, Ok t u := fun u hu => H.fd.ok u (mem_sortS.mp hu)
  have hRl : (rows.mergeSort leS).length ≤ 600 := by rw [(List.mergeSort_perm rows leS).length_eq]; omega
  have c1 := cut_len (M.map dSt) (some 1) none
  have c2 := cut_len (M.map dSt) none (some 1)
  rw [List.length_map] at c1 c2
  have hc1 : slcD (.tup (M.map dSt)) (some 1) none = some (.tup (cutD (M.map dSt) (some 1) none)) := rfl
  have hc2 : slcD (.tup (M.map dSt)) none (some 1) = some (.tup (cutD (M.map dSt) none (some 1))) := rfl
  have hadd : binD .Add (.tup (M.map dSt)) (.tup (cutD (M.map dSt) none (some 1))) = some (.tup (M.map dSt ++ cutD (M.map dSt) none (some 1))) := addT _ _ (by rw [List.length_map]; omega)
  refine .inr ⟨_, rfl, _, rfl, _, rfl, _, rfl, _, hc1, _, rfl, _, rfl, _, rfl, _, rfl, _, rfl, _, hc2, _, hadd, _, rfl, _, sortedRows rows (fun u hu => (H.fd.ok u hu).ne ht), _, rfl, _, rfl, (Nat.le_of_ble_eq_true rfl), (Nat.le_of_ble_eq_true rfl), (Nat.le_of_ble_eq_true rfl), ?_⟩
  refine bents 4 12 28 3 rfl (.tup (M.map dSt)) (Sts_Nm ht hM (by omega)) (by omega) (by omega) [12] _ b hb _ 1 20 (fun i => ⟨_, rfl, rfl, rfl⟩) fun l hl2 hl3 b5 hb5 => ?_
  refine ⟨_, addL _ _ (by simp only [List.length_cons, List.length_nil]; omega), _, rfl, ?_⟩
  have hvals : ∀ v ∈ [D.tup (M.map dSt), .tup (K.map dSt), .tup (cutD (M.map dSt) (some 1) none), .tup (M.map dSt).reverse, .tup (M.map dSt ++ cutD (M.map dSt) none (some 1)), .tup ((rows.mergeSort leS).map dSt), .tup [dSt s], .non, .int 0, .tup []] ++ l, Smp 5 v := by
    have hs : ∀ u : Sta, Ok t u → Smp 4 (dSt u) := fun u o => Nm_Smp 2 2 _ (St_Nm ht o)
    have hms : ∀ x ∈ M.map dSt, Smp 4 x := fun x hx => by
      obtain ⟨u, hu, rfl⟩ := List.mem_map.mp hx
      exact hs u (hM u hu)
    intro v hv
    rcases List.mem_append.mp hv with hv | hv
    · simp only [List.mem_cons, List.not_mem_nil, or_false] at hv
      rcases hv with rfl | rfl | rfl | rfl | rfl | rfl | rfl | rfl | rfl | rfl
      · exact Sts_Smp ht 2 hM (by omega)
      · exact Sts_Smp ht 2 hK (by omega)
      · exact Smp_tup (by omega) fun x hx => hms x (cut_mem hx)
      · exact Smp_tup (by rw [List.length_reverse, List.length_map]; omega) fun x hx => hms x (List.mem_reverse.mp hx)
      · refine Smp_tup (by rw [List.length_append, List.length_map]; omega) fun x hx => ?_
        rcases List.mem_append.mp hx with hx | hx
        · exact hms x hx
        · exact hms x (cut_mem hx)
      · exact Sts_Smp ht 2 hR (by omega)
      · exact Smp_tup (by simp) fun x hx => by rw [List.mem_singleton.mp hx]; exact hs s H.ok
      · trivial
      · trivial
      · exact ⟨(Nat.le_of_ble_eq_true rfl), fun x hx => by cases hx⟩
    · exact hl2 v hv
  refine for_self _ (fun pre e bb => bb = b5 ∧ ∃ f4 f7 f8 x9 x10 x11 x12 x13 x14 x15 x16 x17 x18 x19 x20 x21 x22 x23 x24, e = [x0, some (.box, false), x2, some (dTr t, false), some (.lst (E.map dSt), f4), x5, some (dSt s, false), some (.lst (rows.map dSt), f7), some (.lst ((SS t rows).map dSt), f8), x9, x10, x11, x12, x13, x14, x15, x16, x17, x18, x19, x20, x21, x22, x23, x24]) ⟨rfl, _, _, _, _, _, _, _, _, _, _, _, _, _, _, _, _, _, _, _, rfl⟩ (fun pre v rest env bb hd hi => ?_) fun env bb hi => ?_
  · obtain ⟨rfl, f4, f7, f8, x9, x10, x11, x12, x13, x14, x15, x16, x17, x18, x19, x20, x21, x22, x23, x24, rfl⟩ := hi
    have hv : Smp 5 v := hvals v (by rw [hd]; simp)
    refine ⟨_, rfl, ?_⟩
    refine ⟨_, rfl, _, rfl, _, rfl, _, rfl, _, _, law_is_trap_ok 26 2 t s v E bb hv ht H.every, (Nat.le_of_ble_eq_true rfl), ?_⟩
    refine ⟨_, rfl, _, rfl, _, rfl, _, _, is_trap_ok 26 2 t s v bb hv ht H.ok, _, rfl, _, _, same' 29 (.bl (trapD t s v)) bb trivial, _, rfl, _, rfl, br_t rfl ?_⟩
    refine ⟨_, rfl, _, rfl, ?_⟩
    cases e : trapD t s v with
    | false => exact br_f rfl ⟨_, rfl, br_f rfl ⟨rfl, _, _, _, _, _, _, _, _, _, _, _, _, _, _, _, _, _, _, _, rfl⟩⟩
    | true =>
      refine br_t rfl ⟨_, rfl, _, rfl, _, in_rows _ _, ?_⟩
      rw [in_SS H, trap_not_safe e]
      exact ⟨_, rfl, br_f rfl ⟨rfl, _, _, _, _, _, _, _, _, _, _, _, _, _, _, _, _, _, _, _, rfl⟩⟩
  · obtain ⟨rfl, f4, f7, f8, x9, x10, x11, x12, x13, x14, x15, x16, x17, x18, x19, x20, x21, x22, x23, x24, rfl⟩ := hi
    exact blk21 t E s rows H bb _ _ _ _ _ _ _ _ _ _ _ _ _ _ _ _ _ _ _ _ _ _ _ _ fun x14 => hQ _ _ _ _ _ _ _ _ _ _ _ _ _ _ _ _ _ _ _ _ hb5
theorem blk18 (b : BS) (hb : BOk b) (f4 f7 f8 : Bool) (x0 x2 x5 x9 x10 x11 x12 x13 x14 x15 x17 x18 x19 x20 x21 x22 x23 x24 : Option (D × Bool)) (Q : Fl × En.Env × BS → Prop)
    (hQ : ∀ (b' : BS) (f4 : Bool) (x7 x8 x9 x10 x11 x12 x13 x14 x15 x16 x17 x18 x19 x20 x21 x22 x23 x24 : Option (D × Bool)), BOk b' → Q (.nxt, [x0, some (.box, false), x2, some (dTr t, false), some (.lst (E.map dSt), f4), x5, some (dSt s, false), x7, x8, x9, x10, x11, x12, x13, x14, x15, x16, x17, x18, x19, x20, x21, x22, x23, x24], b')) :
    wss ⟨call 29, conOf C⟩ 1000000 (blkStep.drop 18) [x0, some (.box, false), x2, some (dTr t, false), some (.lst (E.map dSt), f4), x5, some (dSt s, false), some (.lst (rows.map dSt), f7), some (.lst ((SS t rows).map dSt), f8), x9, x10, x11, x12, x13, x14, x15, some (tpv t s rows, false), x17, x18, x19, x20, x21, x22, x23, x24] b Q := by
  have ht := H.tr.tok
  have hsm := H.small
  refine .inr ⟨_, rfl, _, rfl, ?_⟩
  refine lc_filter (cl := ⟨call 29, conOf C⟩) E dSt dSt (fun u => !sf t u) (fun u hu => ?_) (le_size (by have := H.few; omega)) ?_
  · have ou := (H.every u).mp hu
    obtain ⟨ru, e, fdu, hau⟩ := law_from_ok 26 t u b ht ou
    have hru := rows_few ht fdu.nd fdu.ok
    refine ⟨_, rfl, .inr ⟨_, rfl, _, rfl, _, _, e, _, rfl, ?_⟩⟩
    refine lc_map (cl := ⟨call 29, conOf C⟩) ru dSt (fun v => .bl (done t v)) (fun v hv => ?_) (le_size (by omega)) ?_
    · have ov := fdu.ok v hv
      exact ⟨_, rfl, _, rfl, _, rfl, _, _, law_done_ok 28 t v _ ov.len (by have := ov.len; have := ht.few; omega), rfl, rfl⟩
    · refine ⟨_, any_map ru _, _, rfl, _, rfl, ?_, rfl, fun _ => ⟨_, rfl, rfl, rfl⟩⟩
      rw [any_done t u ht ou hau]
  · have hKs : ∀ u ∈ E.filter (fun u => !sf t u), Ok t u := fun u hu => (H.every u).mp (List.mem_filter.mp hu).1
    refine ⟨_, sortedRows _ (fun u hu => (hKs u hu).ne ht), _, rfl, (Nat.le_of_ble_eq_true rfl), ?_⟩
    generalize hKe : (E.filter fun u => !sf t u).mergeSort leS = K
    have hK : ∀ u ∈ K, Ok t u := fun u hu => by
      rw [← hKe, mem_sortS] at hu
      exact hKs u hu
    have hKl : K.length ≤ 600 := by
      rw [← hKe, (List.mergeSort_perm _ leS).length_eq]
      exact Nat.le_trans (List.length_filter_le _ _) (by have := H.few; omega)
    have hR : ∀ u ∈ rows.mergeSort leS, Ok t u := fun u hu => H.fd.ok u (mem_sortS.mp hu)
    have hRl : (rows.mergeSort leS).length ≤ 600 := by rw [(List.mergeSort_perm rows leS).length_eq]; omega
    rw [tpv_eq]
    cases e : sf t s with
    | true =>
      refine ⟨_, rfl, _, rfl, _, rfl, (fun z => by cases z), fun _ => ?_⟩
      refine ⟨_, rfl, (Nat.le_of_ble_eq_true rfl), ?_⟩
      exact blk20 t E s rows H K K hK hKl hK hKl b hb _ _ _ _ _ _ _ _ _ _ _ _ _ _ _ _ _ _ _ _ _ hQ
    | false =>
      refine ⟨_, rfl, _, rfl, _, rfl, (fun _ => ?_), fun z => by cases z⟩
      refine ⟨_, rfl, (Nat.le_of_ble_eq_true rfl), ?_⟩
      exact blk20 t E s rows H (rows.mergeSort leS) K hR hRl hK hKl b hb _ _ _ _ _ _ _ _ _ _ _ _ _ _ _ _ _ _ _ _ _ hQ
end
end Lw

namespace Lw
open PySem PySem.Spec PyProof.Rows L2 En
theorem Row_Nm {P : List Nat} (hl : P.length ≤ 1000) (h : ∀ a ∈ P, a < 1000) : Nm 2 (.tup (P.map dA)) := by
  refine ⟨by rw [List.length_map]; exact hl, fun x hx => ?_⟩
  obtain ⟨a, ha, rfl⟩ := List.mem_map.mp hx
  have := h a ha
  exact ⟨by omega, by omega⟩
section
variable (t : Tr) (E : List Sta) (s : Sta) (rows : List Sta) (H : Here t E s rows)
include H
theorem blk16 (P ds : List Nat) (hP : P.length ≤ 100) (hPs : ∀ a ∈ P, a < 1000) (hds : ds.length ≤ 100) (b : BS) (hb : BOk b) (f4 f7 f8 f17 : Bool) (x0 x2 x5 x9 x10 x11 x12 x13 x14 x15 x18 x19 x21 x22 x23 x24 : Option (D × Bool)) (Q : Fl × En.Env × BS → Prop)
    (hQ : ∀ (b' : BS) (f4 : Bool) (x7 x8 x9 x10 x11 x12 x13 x14 x15 x16 x17 x18 x19 x20 x21 x22 x23 x24 : Option (D × Bool)), BOk b' → Q (.nxt, [x0, some (.box, false), x2, some (dTr t, false), some (.lst (E.map dSt), f4), x5, some (dSt s, false), x7, x8, x9, x10, x11, x12, x13, x14, x15, x16, x17, x18, x19, x20, x21, x22, x23, x24], b')) :
    wss ⟨call 29, conOf C⟩ 1000000 (blkStep.drop 16) [x0, some (.box, false), x2, some (dTr t, false), some (.lst (E.map dSt), f4), x5, some (dSt s, false), some (.lst (rows.map dSt), f7), some (.lst ((SS t rows).map dSt), f8), x9, x10, x11, x12, x13, x14, x15, some (tpv t s rows, false), some (.lst (ds.map dA), f17), x18, x19, some (.tup (P.map dA), false), x21, x22, x23, x24] b Q := by
  have ht := H.tr.tok
  have c1 := cut_len (P.map dA) (some 1) none
  have c2 := cut_len (P.map dA) none (some 1)
  rw [List.length_map] at c1 c2
  have hc1 : slcD (.tup (P.map dA)) (some 1) none = some (.tup (cutD (P.map dA) (some 1) none)) := rfl
  have hc2 : slcD (.tup (P.map dA)) none (some 1) = some (.tup (cutD (P.map dA) none (some 1))) := rfl
  have hadd : binD .Add (.tup (P.map dA)) (.tup (cutD (P.map dA) none (some 1))) = some (.tup (P.map dA ++ cutD (P.map dA) none (some 1))) := addT _ _ (by rw [List.length_map]; omega)
  refine ⟨_, rfl, _, rfl, _, rfl, _, hc1, _, rfl, _, rfl, _, rfl, _, rfl, _, rfl, _, hc2, _, hadd, _, rfl, _, rfl, (Nat.le_of_ble_eq_true rfl), (Nat.le_of_ble_eq_true rfl), (Nat.le_of_ble_eq_true rfl), (Nat.le_of_ble_eq_true rfl), ?_⟩
  refine .inr ⟨_, rfl, ?_⟩
  refine bents 4 12 28 2 rfl (.tup (P.map dA)) (Row_Nm (by omega) hPs) (by omega) (by omega) [12] _ b hb _ 1 20 (fun i => ⟨_, rfl, rfl, rfl⟩) fun l hl2 hl3 b5 hb5 => ?_
  refine ⟨_, addL _ _ (by simp only [List.length_cons, List.length_nil]; omega), _, rfl, ?_⟩
  have hvals : ∀ v ∈ [D.tup (P.map dA), .tup (cutD (P.map dA) (some 1) none), .tup (P.map dA).reverse, .tup (P.map dA ++ cutD (P.map dA) none (some 1)), .tup (ds.map dA), .tup [.bl true], .non, .int 0, .tup []] ++ l, Smp 4 v := by
    have hms : ∀ x ∈ P.map dA, Smp 3 x := fun x hx => by
      obtain ⟨a, _, rfl⟩ := List.mem_map.mp hx
      trivial
    intro v hv
    rcases List.mem_append.mp hv with hv | hv
    · simp only [List.mem_cons, List.not_mem_nil, or_false] at hv
      rcases hv with rfl | rfl | rfl | rfl | rfl | rfl | rfl | rfl | rfl
      · exact Smp_tup (by rw [List.length_map]; omega) hms
      · exact Smp_tup (by omega) fun x hx => hms x (cut_mem hx)
      · exact Smp_tup (by rw [List.length_reverse, List.length_map]; omega) fun x hx => hms x (List.mem_reverse.mp hx)
      · refine Smp_tup (by rw [List.length_append, List.length_map]; omega) fun x hx => ?_
        rcases List.mem_append.mp hx with hx | hx
        · exact hms x hx
        · exact hms x (cut_mem hx)
      · exact dA_Smp 2 ds (by omega)
      · exact Smp_tup (by simp) fun x hx => by rw [List.mem_singleton.mp hx]; trivial
      · trivial
      · trivial
      · exact ⟨(Nat.le_of_ble_eq_true rfl), fun x hx => by cases hx⟩
    · exact hl2 v hv
  refine for_self _ (fun pre e bb => bb = b5 ∧ ∃ f4 f7 f8 x9 x10 x11 x12 x13 x14 x15 x17 x18 x19 x20 x21 x22 x23 x24, e = [x0, some (.box, false), x2, some (dTr t, false), some (.lst (E.map dSt), f4), x5, some (dSt s, false), some (.lst (rows.map dSt), f7), some (.lst ((SS t rows).map dSt), f8), x9, x10, x11, x12, x13, x14, x15, some (tpv t s rows, false), x17, x18, x19, x20, x21, x22, x23, x24]) ⟨rfl, _, _, _, _, _, _, _, _, _, _, _, _, _, _, _, _, _, _, rfl⟩ (fun pre v rest env bb hd hi => ?_) fun env bb hi => ?_
  · obtain ⟨rfl, f4, f7, f8, x9, x10, x11, x12, x13, x14, x15, x17, x18, x19, x20, x21, x22, x23, x24, rfl⟩ := hi
    have hv : Smp 4 v := hvals v (by rw [hd]; simp)
    refine ⟨_, rfl, ?_⟩
    refine ⟨_, rfl, _, rfl, _, rfl, _, _, brings_through_ok 26 2 t s v bb hv ht H.ok, ?_⟩
    refine ⟨_, rfl, _, rfl, _, rfl, _, _, law_brings_ok 26 2 t s v bb hv ht H.ok, ?_⟩
    refine ⟨_, _, same' 29 (.bl (brB t s v)) bb trivial, _, rfl, _, rfl, br_f rfl ?_⟩
    exact ⟨rfl, _, _, _, _, _, _, _, _, _, _, _, _, _, _, _, _, _, _, rfl⟩
  · obtain ⟨rfl, f4, f7, f8, x9, x10, x11, x12, x13, x14, x15, x17, x18, x19, x20, x21, x22, x23, x24, rfl⟩ := hi
    exact blk18 t E s rows H bb hb5 _ _ _ _ _ _ _ _ _ _ _ _ _ _ _ _ _ _ _ _ _ _ hQ
theorem blk15 (ds : List Nat) (hds : ds.length ≤ 100) (hdss : ∀ a ∈ ds, a < 1000) (b : BS) (hb : BOk b) (f4 f7 f8 f17 : Bool) (x0 x2 x5 x9 x10 x11 x12 x13 x14 x18 x19 x20 x21 x22 x23 x24 : Option (D × Bool)) (Q : Fl × En.Env × BS → Prop)
    (hQ : ∀ (b' : BS) (f4 : Bool) (x7 x8 x9 x10 x11 x12 x13 x14 x15 x16 x17 x18 x19 x20 x21 x22 x23 x24 : Option (D × Bool)), BOk b' → Q (.nxt, [x0, some (.box, false), x2, some (dTr t, false), some (.lst (E.map dSt), f4), x5, some (dSt s, false), x7, x8, x9, x10, x11, x12, x13, x14, x15, x16, x17, x18, x19, x20, x21, x22, x23, x24], b')) :
    wss ⟨call 29, conOf C⟩ 1000000 (blkStep.drop 15) [x0, some (.box, false), x2, some (dTr t, false), some (.lst (E.map dSt), f4), x5, some (dSt s, false), some (.lst (rows.map dSt), f7), some (.lst ((SS t rows).map dSt), f8), x9, x10, x11, x12, x13, x14, some (if sf t s = true then .tup ((gp t (tot t - s.sum) s).map dA) else .non, false), some (tpv t s rows, false), some (.lst (ds.map dA), f17), x18, x19, x20, x21, x22, x23, x24] b Q := by
  have ht := H.tr.tok
  have htl := tot_le ht
  cases e : sf t s with
  | true =>
    have hgl := gp_len (tot t - s.sum) s H.ok (sf_iff.mp e) rfl
    have hgm : ∀ (m : Nat) (u : Sta), u.length ≤ 3 → ∀ a ∈ gp t m u, a < 1000 := fun m => by
      induction m with
      | zero => intro u _ a ha; cases ha
      | succ m ih =>
        intro u hu a ha
        simp only [gp] at ha
        cases hf : fit t u with
        | nil => rw [hf] at ha; cases ha
        | cons k r =>
          rw [hf] at ha
          have hk := mem_moves_lt (fit_mem (by rw [hf]; exact List.mem_cons_self : k ∈ fit t u)).1
          rcases List.mem_cons.mp ha with rfl | ha
          · omega
          · exact ih (nxt u k) (by rw [nxt_len]; exact hu) a ha
    rw [if_pos rfl]
    refine ⟨_, rfl, true, rfl, _, rfl, (fun _ => ?_), fun z => by cases z⟩
    refine ⟨_, rfl, (Nat.le_of_ble_eq_true rfl), ?_⟩
    exact blk16 t E s rows H (gp t (tot t - s.sum) s) ds (by omega) (hgm _ s H.three) hds b hb _ _ _ _ _ _ _ _ _ _ _ _ _ _ _ _ _ _ _ _ _ hQ
  | false =>
    rw [if_neg (by decide)]
    refine ⟨_, rfl, false, rfl, _, rfl, (fun z => by cases z), fun _ => ?_⟩
    refine ⟨_, rfl, _, rfl, (Nat.le_of_ble_eq_true rfl), ?_⟩
    exact blk16 t E s rows H ds ds hds hdss hds b hb _ _ _ _ _ _ _ _ _ _ _ _ _ _ _ _ _ _ _ _ _ hQ
end
end Lw

namespace Lw
open PySem PySem.Spec PyProof.Rows L2 En
theorem sum_ints (ns : List Int) : biD .sum [.lst (ns.map .int)] = some (.int ns.sum) := by
  show (intsD (ns.map D.int)).map _ = _
  rw [intsD_map]; rfl
theorem sum_roads (t : Tr) : biD .sum [.lst (t.map fun r => .int (r.length : Int))] = some (.int ((tot t : Nat) : Int)) := by
  have e : (t.map fun r => D.int (r.length : Int)) = (toI (ln t)).map D.int := by
    rw [toI, ln, List.map_map, List.map_map]; rfl
  rw [e, sum_ints, sum_toI]; rfl
theorem idx_lastA (l : List Nat) (k : Nat) : idxD (.lst (l.map dA ++ [dA k])) (.int (-1)) = some (dA k) := by
  have e : l.map dA ++ [dA k] = ((l ++ [k]).map fun a : Nat => (a : Int)).map D.int := by
    rw [List.map_map, List.map_append]; rfl
  rw [e]
  exact idx_lastI _ (k : Int) (by simp)
section
variable (t : Tr) (E : List Sta) (s : Sta) (rows : List Sta) (H : Here t E s rows)
include H
theorem blk12 (ds : List Nat) (hds : ds.length ≤ 100) (hdss : ∀ a ∈ ds, a < 1000) (b : BS) (hb : BOk b) (f4 f7 f8 f17 : Bool) (x0 x2 x5 x9 x10 x11 x12 x13 x14 x18 x19 x20 x21 x22 x23 x24 : Option (D × Bool)) (Q : Fl × En.Env × BS → Prop)
    (hQ : ∀ (b' : BS) (f4 : Bool) (x7 x8 x9 x10 x11 x12 x13 x14 x15 x16 x17 x18 x19 x20 x21 x22 x23 x24 : Option (D × Bool)), BOk b' → Q (.nxt, [x0, some (.box, false), x2, some (dTr t, false), some (.lst (E.map dSt), f4), x5, some (dSt s, false), x7, x8, x9, x10, x11, x12, x13, x14, x15, x16, x17, x18, x19, x20, x21, x22, x23, x24], b')) :
    wss ⟨call 29, conOf C⟩ 1000000 (blkStep.drop 12) [x0, some (.box, false), x2, some (dTr t, false), some (.lst (E.map dSt), f4), x5, some (dSt s, false), some (.lst (rows.map dSt), f7), some (.lst ((SS t rows).map dSt), f8), x9, x10, x11, x12, x13, x14, some (if sf t s = true then .tup ((gp t (tot t - s.sum) s).map dA) else .non, false), some (tpv t s rows, false), some (.lst (ds.map dA), f17), x18, x19, x20, x21, x22, x23, x24] b Q := by
  have ht := H.tr.tok
  have htl := tot_le ht
  have h3 := H.three
  refine ⟨_, rfl, (Nat.le_of_ble_eq_true rfl), ?_⟩
  refine .inr (.inr ⟨_, rfl, _, rfl, ?_⟩)
  refine lc_map (cl := ⟨call 29, conOf C⟩) t dR (fun r => .int (r.length : Int)) (fun r hr => ⟨_, rfl, _, rfl, _, lenR r, rfl, rfl⟩) (le_size (by have := ht.few; omega)) ?_
  refine ⟨_, sum_roads t, _, nat_rng (tot t) (by omega), ?_⟩
  generalize hmv : (if sf t s = true then D.tup ((gp t (tot t - s.sum) s).map dA) else .non) = mvv
  refine for_pre (List.range (tot t)) (fun i : Nat => .int (i : Int)) (fun pre e bb => BOk bb ∧ ∃ u f4 f7 f8 x12 x13 x19, Reach t s u ∧ (sf t s = true → Safe t u ∧ (done t u = true ∨ s.sum + pre.length ≤ u.sum)) ∧ e = [x0, some (.box, false), x2, some (dTr t, false), some (.lst (E.map dSt), f4), x5, some (dSt s, false), some (.lst (rows.map dSt), f7), some (.lst ((SS t rows).map dSt), f8), some (dSt u, false), x10, x11, x12, x13, x14, some (mvv, false), some (tpv t s rows, false), some (.lst (ds.map dA), f17), x18, x19, x20, x21, x22, x23, x24]) ⟨hb, s, _, _, _, _, _, _, .refl, fun e => ⟨sf_iff.mp e, .inr (by simp)⟩, rfl⟩ (fun pre k rest env bb hd hi => ?_) fun env bb hi => ?_
  · obtain ⟨hbb, u, f4, f7, f8, x12, x13, x19, hr, hsf, rfl⟩ := hi
    have ou := hr.ok H.ok
    have hul : u.length ≤ 3 := by have := ou.len; have := ht.few; omega
    have hml := moves_len t u
    have hfl : (fit t u).length ≤ 3 := Nat.le_trans (List.length_filter_le _ _) (by omega)
    refine ⟨_, rfl, ?_⟩
    refine ⟨_, rfl, _, rfl, _, in_rows _ _, _, rfl, ?_⟩
    rw [in_SS H]
    cases e : sf t s with
    | false =>
      refine ⟨(fun z => by cases z), fun _ => ?_⟩
      refine ⟨(Nat.le_of_ble_eq_true rfl), (Nat.le_of_ble_eq_true rfl), ?_⟩
      refine ⟨_, rfl, _, rfl, _, rfl, _, rfl, (fun z => by cases z), fun _ => ?_⟩
      exact ⟨hbb, u, _, _, _, _, _, _, hr, (fun z => by cases z), rfl⟩
    | true =>
      obtain ⟨hsu, hor⟩ := hsf e
      refine ⟨(fun _ => ?_), fun z => by cases z⟩
      refine ⟨_, rfl, _, rfl, _, _, may_move_ok 24 t u bb ht ou, (Nat.le_of_ble_eq_true rfl), ?_⟩
      refine ⟨_, rfl, _, lenTu (fit t u) dA, _, gt_nat _, _, rfl, fun hk => ?_, fun hk => ?_⟩
      · have hpos : 0 < (fit t u).length := of_decide_eq_true hk
        obtain ⟨v, b1, e1, h0, h1, hb1⟩ := call_draw 28 hbb ((fit t u).length : Int) (by omega) (by omega)
        obtain ⟨j, rfl⟩ := Int.eq_ofNat_of_zero_le h0
        have hj : j < (fit t u).length := by omega
        have hg := List.getElem?_eq_getElem hj
        generalize hkk : (fit t u)[j] = kk at hg
        have hm := fit_mem (hkk ▸ List.getElem_mem hj : kk ∈ fit t u)
        refine ⟨_, rfl, _, rfl, _, rfl, _, rfl, _, lenTu (fit t u) dA, _, _, e1, _, idx_map (fit t u) dA j kk hg, _, _, law_next_ok 28 u _ (by omega) kk (mem_moves_lt hm.1), (Nat.le_of_ble_eq_true rfl), hb1, nxt u kk, _, _, _, _, _, _, .step hr hm.1, fun _ => ⟨hm.2, ?_⟩, rfl⟩
        have hs := sum_nxt u kk (mem_moves_lt hm.1)
        rcases hor with hd | hd
        · rw [done_no_moves hd] at hm
          cases hm.1
        · right
          simp only [List.length_append, List.length_singleton]
          omega
      · have hz : ¬ 0 < (fit t u).length := of_decide_eq_false hk
        have hdn : done t u = true := by
          cases hd : done t u with
          | true => rfl
          | false =>
            obtain ⟨k', r', hf⟩ := fit_ne hsu hd
            rw [hf] at hz
            simp at hz
        exact ⟨hbb, u, _, _, _, _, _, _, hr, fun _ => ⟨hsu, .inl hdn⟩, rfl⟩
  · obtain ⟨hbb, u, f4, f7, f8, x12, x13, x19, hr, hsf, rfl⟩ := hi
    have ou := hr.ok H.ok
    have hul : u.length ≤ 3 := by have := ou.len; have := ht.few; omega
    refine ⟨_, rfl, _, rfl, _, in_rows _ _, _, rfl, ?_⟩
    rw [in_SS H]
    cases e : sf t s with
    | false =>
      refine br_f rfl ⟨_, rfl, br_f rfl ?_⟩
      rw [← hmv]
      exact blk15 t E s rows H ds hds hdss bb hbb _ _ _ _ _ _ _ _ _ _ _ _ _ _ _ _ _ _ _ _ _ hQ
    | true =>
      obtain ⟨hsu, hor⟩ := hsf e
      have hdn : done t u = true := by
        rcases hor with hd | hd
        · exact hd
        · rw [List.length_range] at hd
          have := sum_le_tot ou
          exact (done_iff ou).mpr (by omega)
      refine br_t rfl ⟨_, rfl, _, rfl, _, _, law_done_ok 28 t u _ ou.len (by omega), _, rfl, _, rfl, ?_⟩
      rw [hdn]
      refine br_f rfl ?_
      rw [← hmv]
      exact blk15 t E s rows H ds hds hdss bb hbb _ _ _ _ _ _ _ _ _ _ _ _ _ _ _ _ _ _ _ _ _ hQ
theorem blk9 (b : BS) (hb : BOk b) (f4 f7 f8 : Bool) (x0 x2 x5 x9 x10 x11 x12 x13 x14 x17 x18 x19 x20 x21 x22 x23 x24 : Option (D × Bool)) (Q : Fl × En.Env × BS → Prop)
    (hQ : ∀ (b' : BS) (f4 : Bool) (x7 x8 x9 x10 x11 x12 x13 x14 x15 x16 x17 x18 x19 x20 x21 x22 x23 x24 : Option (D × Bool)), BOk b' → Q (.nxt, [x0, some (.box, false), x2, some (dTr t, false), some (.lst (E.map dSt), f4), x5, some (dSt s, false), x7, x8, x9, x10, x11, x12, x13, x14, x15, x16, x17, x18, x19, x20, x21, x22, x23, x24], b')) :
    wss ⟨call 29, conOf C⟩ 1000000 (blkStep.drop 9) [x0, some (.box, false), x2, some (dTr t, false), some (.lst (E.map dSt), f4), x5, some (dSt s, false), some (.lst (rows.map dSt), f7), some (.lst ((SS t rows).map dSt), f8), x9, x10, x11, x12, x13, x14, some (if sf t s = true then .tup ((gp t (tot t - s.sum) s).map dA) else .non, false), some (tpv t s rows, false), x17, x18, x19, x20, x21, x22, x23, x24] b Q := by
  have ht := H.tr.tok
  have h3 := H.three
  refine ⟨_, rfl, (Nat.le_of_ble_eq_true rfl), _, rfl, ?_⟩
  obtain ⟨v, b1, e1, h0, h1, hb1⟩ := call_draw 28 hb 9 (by omega) (by omega)
  obtain ⟨c, rfl⟩ := Int.eq_ofNat_of_zero_le h0
  refine .inr ⟨_, rfl, _, _, e1, _, nat_rng c (by omega), ?_⟩
  generalize hmv : (if sf t s = true then D.tup ((gp t (tot t - s.sum) s).map dA) else .non) = mvv
  refine for_pre (List.range c) (fun i : Nat => .int (i : Int)) (fun pre e bb => BOk bb ∧ ∃ R o f4 f7 f8 x12 x13, Lgl t s R ∧ R.length ≤ pre.length ∧ o = mis t s R ∧ e = [x0, some (.box, false), x2, some (dTr t, false), some (.lst (E.map dSt), f4), x5, some (dSt s, false), some (.lst (rows.map dSt), f7), some (.lst ((SS t rows).map dSt), f8), some (dSt (pth s R), false), x10, x11, x12, x13, x14, some (mvv, false), some (tpv t s rows, false), some (.lst (R.reverse.map dA), true), some (dN o, false), x19, x20, x21, x22, x23, x24]) ⟨hb1, [], none, _, _, _, _, _, trivial, by simp, rfl, rfl⟩ (fun pre k rest env bb hd hi => ?_) fun env bb hi => ?_
  · obtain ⟨hbb, R, o, f4, f7, f8, x12, x13, hl, hRl, ho, rfl⟩ := hi
    have hpl : pre.length < 9 := by
      have := congrArg List.length hd
      rw [List.length_range, List.length_append, List.length_cons] at this
      omega
    have hr := hl.reach
    have ou := hr.ok H.ok
    have hul : (pth s R).length ≤ 3 := by have := ou.len; have := ht.few; omega
    have hml := moves_len t (pth s R)
    refine ⟨_, rfl, ?_⟩
    refine ⟨_, rfl, _, rfl, _, _, law_moves_ok 27 t (pth s R) bb ou.len (by omega), (Nat.le_of_ble_eq_true rfl), ?_⟩
    refine ⟨_, rfl, _, lenL (moves t (pth s R)) dA, _, gt_nat _, _, rfl, fun hk => ?_, fun hk => ?_⟩
    · have hpos : 0 < (moves t (pth s R)).length := of_decide_eq_true hk
      obtain ⟨v, b2, e2, h20, h21, hb2⟩ := call_draw 28 hbb ((moves t (pth s R)).length : Int) (by omega) (by omega)
      obtain ⟨j, rfl⟩ := Int.eq_ofNat_of_zero_le h20
      have hj : j < (moves t (pth s R)).length := by omega
      have hg := List.getElem?_eq_getElem hj
      generalize hkk : (moves t (pth s R))[j] = kk at hg
      have hm : kk ∈ moves t (pth s R) := hkk ▸ List.getElem_mem hj
      have hl2 : Lgl t s (kk :: R) := ⟨hm, hl⟩
      refine ⟨_, rfl, _, rfl, _, rfl, _, lenL (moves t (pth s R)) dA, _, _, e2, _, idx_mapl (moves t (pth s R)) dA j kk hg, _, rfl, lt_size (by rw [List.length_map, List.length_reverse]; omega), ?_⟩
      refine ⟨_, rfl, _, rfl, _, rfl, _, idx_lastA R.reverse kk, _, _, law_next_ok 28 (pth s R) _ (by omega) kk (mem_moves_lt hm), (Nat.le_of_ble_eq_true rfl), ?_⟩
      rw [show R.reverse.map dA ++ [dA kk] = (kk :: R).reverse.map dA by rw [List.reverse_cons, List.map_append]; rfl]
      have hmis : mis t s (kk :: R) = match mis t s R with
        | some i => some i
        | none => if sf t (nxt (pth s R) kk) = true then none else some R.length := rfl
      cases o with
      | some i =>
        have e3 := ho.symm
        rw [e3] at hmis
        refine ⟨_, rfl, _, rfl, _, rfl, br_f rfl ⟨_, rfl, (fun z => by cases z), fun _ => ?_⟩⟩
        exact ⟨_, rfl, (Nat.le_of_ble_eq_true rfl), hb2, kk :: R, some i, _, _, _, _, _, hl2, by simp; omega, hmis.symm, rfl⟩
      | none =>
        have e3 := ho.symm
        rw [e3] at hmis
        refine ⟨_, rfl, _, rfl, _, rfl, br_t rfl ⟨_, rfl, _, rfl, _, nin_rows _ _, _, rfl, ?_⟩⟩
        have hin : decide (nxt (pth s R) kk ∈ SS t rows) = sf t (nxt (pth s R) kk) := by
          rw [Bool.eq_iff_iff, decide_eq_true_eq, mem_SS H, sf_iff]
          exact ⟨fun z => z.2, fun z => ⟨.step hr hm, z⟩⟩
        rw [hin]
        cases e4 : sf t (nxt (pth s R) kk) with
        | true =>
          refine ⟨(fun z => by cases z), fun _ => ?_⟩
          rw [e4, if_pos rfl] at hmis
          exact ⟨_, rfl, (Nat.le_of_ble_eq_true rfl), hb2, kk :: R, none, _, _, _, _, _, hl2, by simp; omega, hmis.symm, rfl⟩
        | false =>
          refine ⟨(fun _ => ?_), fun z => by cases z⟩
          rw [e4, if_neg (by decide)] at hmis
          have hsub : binD .Sub (.int (((kk :: R).reverse.length : Nat) : Int)) (.int 1) = some (dA R.length) := by
            show some (D.int _) = some (D.int _)
            rw [List.length_reverse, List.length_cons]
            congr 2
            omega
          exact ⟨_, rfl, _, lenL (kk :: R).reverse dA, _, hsub, (Nat.le_of_ble_eq_true rfl), hb2, kk :: R, some R.length, _, _, _, _, _, hl2, by simp; omega, hmis.symm, rfl⟩
    · exact ⟨hbb, R, o, _, _, _, _, _, hl, by simp; omega, ho, rfl⟩
  · obtain ⟨hbb, R, o, f4, f7, f8, x12, x13, hl, hRl, rfl, rfl⟩ := hi
    rw [List.length_range] at hRl
    have hRs : ∀ a ∈ R.reverse, a < 1000 := by
      have : ∀ R : List Nat, Lgl t s R → ∀ a ∈ R, a < 1000 := fun R => by
        induction R with
        | nil => intro _ a ha; cases ha
        | cons k R ih =>
          intro h a ha
          rcases List.mem_cons.mp ha with rfl | ha
          · have h1 := mem_moves_lt h.1
            have h2 := (h.2.reach.ok H.ok).len
            have := ht.few
            omega
          · exact ih h.2 a ha
      exact fun a ha => this R hl a (List.mem_reverse.mp ha)
    refine ⟨_, rfl, _, rfl, _, in_rows _ _, _, rfl, ?_⟩
    rw [in_SS H]
    cases e : sf t s with
    | false =>
      refine br_f rfl ⟨_, rfl, br_f rfl ?_⟩
      rw [← hmv]
      exact blk12 t E s rows H R.reverse (by rw [List.length_reverse]; omega) hRs bb hbb _ _ _ _ _ _ _ _ _ _ _ _ _ _ _ _ _ _ _ _ _ hQ
    | true =>
      refine br_t rfl ⟨_, rfl, _, rfl, _, rfl, _, rfl, _, _, first_mistake_ok 24 t s bb ht H.ok R hl (by omega), _, rfl, _, _, same' 29 (dN (mis t s R)) bb (by cases mis t s R <;> trivial), _, rfl, _, rfl, br_f rfl ?_⟩
      rw [← hmv]
      exact blk12 t E s rows H R.reverse (by rw [List.length_reverse]; omega) hRs bb hbb _ _ _ _ _ _ _ _ _ _ _ _ _ _ _ _ _ _ _ _ _ hQ
end
end Lw

namespace Lw
open PySem PySem.Spec PyProof.Rows L2 En
theorem SS_eq (t : Tr) (rows : List Sta) : rows.filter (fun u => sf t u) = SS t rows := rfl
theorem blk1 (t : Tr) (E : List Sta) (s : Sta) (htr : TrOk t) (hE : ∀ u, u ∈ E ↔ Ok t u) (hEl : E.length ≤ 125) (o : Ok t s) (b : BS) (hb : BOk b) (f4 : Bool) (x0 x2 x5 x7 x8 x9 x10 x11 x12 x13 x14 x15 x16 x17 x18 x19 x20 x21 x22 x23 x24 : Option (D × Bool)) (Q : Fl × En.Env × BS → Prop)
    (hQ : ∀ (b' : BS) (f4 : Bool) (x7 x8 x9 x10 x11 x12 x13 x14 x15 x16 x17 x18 x19 x20 x21 x22 x23 x24 : Option (D × Bool)), BOk b' → Q (.nxt, [x0, some (.box, false), x2, some (dTr t, false), some (.lst (E.map dSt), f4), x5, some (dSt s, false), x7, x8, x9, x10, x11, x12, x13, x14, x15, x16, x17, x18, x19, x20, x21, x22, x23, x24], b')) :
    wss ⟨call 29, conOf C⟩ 1000000 (blkStep.drop 1) [x0, some (.box, false), x2, some (dTr t, false), some (.lst (E.map dSt), f4), x5, some (dSt s, false), x7, x8, x9, x10, x11, x12, x13, x14, x15, x16, x17, x18, x19, x20, x21, x22, x23, x24] b Q := by
  have ht := htr.tok
  have htl := tot_le ht
  obtain ⟨rows, e1, fd, ha⟩ := law_from_ok 26 t s b ht o
  have H : Here t E s rows := ⟨htr, hE, hEl, o, fd, ha⟩
  have h3 := H.three
  have hsm := H.small
  have hml := moves_len t s
  refine ⟨_, rfl, _, rfl, _, _, e1, (Nat.le_of_ble_eq_true rfl), ?_⟩
  refine .inr ⟨_, rfl, _, rfl, ?_⟩
  refine lc_filter (cl := ⟨call 29, conOf C⟩) rows dSt dSt (fun u => sf t u) (fun u hu => ?_) (le_size (by omega)) ?_
  · have ou := fd.ok u hu
    obtain ⟨ru, e, fdu, hau⟩ := law_from_ok 26 t u b ht ou
    have hru := rows_few ht fdu.nd fdu.ok
    refine ⟨_, rfl, .inr ⟨_, rfl, _, rfl, _, _, e, _, rfl, ?_⟩⟩
    refine lc_map (cl := ⟨call 29, conOf C⟩) ru dSt (fun v => .bl (done t v)) (fun v hv => ?_) (le_size (by omega)) ?_
    · have ov := fdu.ok v hv
      exact ⟨_, rfl, _, rfl, _, rfl, _, _, law_done_ok 28 t v _ ov.len (by have := ov.len; have := ht.few; omega), rfl, rfl⟩
    · refine ⟨_, any_map ru _, _, rfl, ?_, rfl, fun _ => ⟨_, rfl, rfl, rfl⟩⟩
      rw [any_done t u ht ou hau]
  rw [SS_eq]
  refine ⟨(Nat.le_of_ble_eq_true rfl), ?_⟩
  have hR : ∀ u ∈ rows.mergeSort leS, Ok t u := fun u hu => fd.ok u (mem_sortS.mp hu)
  have hRl : (rows.mergeSort leS).length ≤ 600 := by rw [(List.mergeSort_perm rows leS).length_eq]; omega
  have hsr := sortedRows rows (fun u hu => (fd.ok u hu).ne ht)
  refine ⟨_, rfl, _, rfl, _, _, states_from_eq 26 t s b ht o rows fd ha, _, rfl, _, hsr, _, rfl, _, _, same' 29 _ b (Sts_Smp ht 26 hR (by omega)), _, rfl, _, rfl, br_f rfl ?_⟩
  refine ⟨(Nat.le_of_ble_eq_true rfl), _, rfl, _, rfl, ?_⟩
  refine .inr ⟨_, nat_rng 30 (by omega), ?_⟩
  refine for_pre (List.range 30) (fun i : Nat => .int (i : Int)) (fun pre e bb => bb = b ∧ ∃ u ds f4 f7 f8 x10 x12 x13 x14, Reach t s u ∧ (sf t s = true → Safe t u ∧ ds ++ gp t (tot t - u.sum) u = gp t (tot t - s.sum) s ∧ (done t u = true ∨ s.sum + pre.length ≤ u.sum)) ∧ ds.length ≤ pre.length ∧
    e = [x0, some (.box, false), x2, some (dTr t, false), some (.lst (E.map dSt), f4), x5, some (dSt s, false), some (.lst (rows.map dSt), f7), some (.lst ((SS t rows).map dSt), f8), some (dSt u, false), x10, some (.lst (ds.map dA), true), x12, x13, x14, x15, x16, x17, x18, x19, x20, x21, x22, x23, x24]) ⟨rfl, s, [], _, _, _, _, _, _, _, .refl, fun e => ⟨sf_iff.mp e, rfl, .inr (by simp)⟩, by simp, rfl⟩ (fun pre k rest env bb hd hi => ?_) fun env bb hi => ?_
  · obtain ⟨rfl, u, ds, f4, f7, f8, x10, x12, x13, x14, hr, hsf, hdl, rfl⟩ := hi
    have hpl : pre.length < 30 := by
      have := congrArg List.length hd
      rw [List.length_range, List.length_append, List.length_cons] at this
      omega
    have ou := hr.ok o
    have hul : u.length ≤ 3 := by have := ou.len; have := ht.few; omega
    have hmu := moves_len t u
    refine ⟨_, rfl, ?_⟩
    refine .inr ⟨_, rfl, _, rfl, _, _, law_moves_ok 27 t u _ ou.len (by omega), _, rfl, ?_⟩
    refine lc_filter (cl := ⟨call 29, conOf C⟩) (moves t u) dA dA (fun k => decide (nxt u k ∈ SS t rows)) (fun j hj => ?_) (le_size (by omega)) ?_
    · exact ⟨_, rfl, _, rfl, _, rfl, _, _, law_next_ok 28 u _ (by omega) j (mem_moves_lt hj), _, rfl, _, in_rows _ _, _, rfl, rfl, rfl, fun _ => ⟨_, rfl, rfl, rfl⟩⟩
    rw [fit_eq (fun v => mem_SS H) hr]
    refine ⟨(Nat.le_of_ble_eq_true rfl), ?_⟩
    refine ⟨_, rfl, _, lenL (fit t u) dA, _, gt_nat _, _, rfl, fun hk => ?_, fun hk => ?_⟩
    · have hpos : 0 < (fit t u).length := of_decide_eq_true hk
      cases hf : fit t u with
      | nil => rw [hf] at hpos; simp at hpos
      | cons kk r =>
        have hm := fit_mem (by rw [hf]; exact List.mem_cons_self : kk ∈ fit t u)
        have hs := sum_nxt u kk (mem_moves_lt hm.1)
        refine ⟨_, rfl, _, idx_mapl (kk :: r) dA 0 kk rfl, _, rfl, lt_size (by rw [List.length_map]; omega), ?_⟩
        rw [show ds.map dA ++ [dA kk] = (ds ++ [kk]).map dA by rw [List.map_append]; rfl]
        refine ⟨_, rfl, _, rfl, _, idx_mapl (kk :: r) dA 0 kk rfl, _, _, law_next_ok 28 u _ (by omega) kk (mem_moves_lt hm.1), (Nat.le_of_ble_eq_true rfl), rfl, nxt u kk, ds ++ [kk], _, _, _, _, _, _, _, .step hr hm.1, fun e => ?_, by simp; omega, rfl⟩
        obtain ⟨a1, a2, a3⟩ := hsf e
        have ou2 := ou.nxt hm.1
        have h5 := sum_le_tot ou2
        refine ⟨hm.2, ?_, ?_⟩
        · rw [← a2]
          have e2 : tot t - u.sum = (tot t - (nxt u kk).sum) + 1 := by omega
          rw [e2]
          simp only [gp, hf, List.append_assoc, List.singleton_append]
        · rcases a3 with a3 | a3
          · rw [done_no_moves a3] at hm
            cases hm.1
          · right
            simp only [List.length_append, List.length_singleton]
            omega
    · have hz : ¬ 0 < (fit t u).length := of_decide_eq_false hk
      refine ⟨rfl, u, ds, _, _, _, _, _, _, _, hr, fun e => ?_, by simp; omega, rfl⟩
      obtain ⟨a1, a2, a3⟩ := hsf e
      refine ⟨a1, a2, .inl ?_⟩
      cases hd2 : done t u with
      | true => rfl
      | false =>
        obtain ⟨k', r', hf⟩ := fit_ne a1 hd2
        rw [hf] at hz
        simp at hz
  · obtain ⟨rfl, u, ds, f4, f7, f8, x10, x12, x13, x14, hr, hsf, hdl, rfl⟩ := hi
    rw [List.length_range] at hdl
    have e7 := trap_of_ok 25 t s bb ht o rows fd ha
    rw [← tpv_eq] at e7
    refine ⟨_, rfl, _, rfl, _, _, safe_moves_ok 24 t s bb ht o, _, rfl, _, rfl, _, _, e7, _, rfl, ?_⟩
    have hfl : (fit t s).length ≤ 3 := Nat.le_trans (List.length_filter_le _ _) (by omega)
    have next : ∀ (f4 f7 f8 : Bool) (x9 x10 x11 x12 x13 x14 : Option (D × Bool)), wss ⟨call 29, conOf C⟩ 1000000 (blkStep.drop 8) [x0, some (.box, false), x2, some (dTr t, false), some (.lst (E.map dSt), f4), x5, some (dSt s, false), some (.lst (rows.map dSt), f7), some (.lst ((SS t rows).map dSt), f8), x9, x10, x11, x12, x13, x14, some (if sf t s = true then .tup ((gp t (tot t - s.sum) s).map dA) else .non, false), some (tpv t s rows, false), x17, x18, x19, x20, x21, x22, x23, x24] bb Q := by
      intro f4 f7 f8 x9 x10 x11 x12 x13 x14
      generalize hmv : (if sf t s = true then D.tup ((gp t (tot t - s.sum) s).map dA) else .non) = mvv
      refine ⟨_, rfl, _, rfl, _, _, may_move_ok 24 t s bb ht o, ?_⟩
      refine .inr ⟨_, rfl, _, rfl, _, _, law_moves_ok 27 t s _ o.len (by omega), _, rfl, ?_⟩
      refine lc_filter (cl := ⟨call 29, conOf C⟩) (moves t s) dA dA (fun k => decide (nxt s k ∈ SS t rows)) (fun j hj => ?_) (le_size (by omega)) ?_
      · exact ⟨_, rfl, _, rfl, _, rfl, _, _, law_next_ok 28 s _ (by omega) j (mem_moves_lt hj), _, rfl, _, in_rows _ _, _, rfl, rfl, rfl, fun _ => ⟨_, rfl, rfl, rfl⟩⟩
      rw [fit_eq (fun v => mem_SS H) .refl]
      refine ⟨_, rfl, _, _, same' 29 (.tup ((fit t s).map dA)) bb (dA_Smp 27 _ (by omega)), _, rfl, _, rfl, br_f rfl ?_⟩
      rw [← hmv]
      exact blk9 t E s rows H bb hb _ _ _ _ _ _ _ _ _ _ _ _ _ _ _ _ _ _ _ _ _ hQ
    refine ⟨_, rfl, _, rfl, (Nat.le_of_ble_eq_true rfl), ?_⟩
    have hB : ∀ (K : D → BS → Prop), K (.tup [if sf t s = true then .tup ((gp t (tot t - s.sum) s).map dA) else .non, tpv t s rows]) bb → we ⟨call 29, conOf C⟩ (.ife (.cmp .In (.var 6) (.var 8)) (.tup (.cons (.bi .tuple (.cons (.var 11) .nil)) (.cons (.cst (.non)) .nil))) (.tup (.cons (.cst (.non)) (.cons (.bi .tuple (.cons (.bi .sorted (.cons (.var 7) .nil)) .nil)) .nil))))
        [x0, some (.box, false), x2, some (dTr t, false), some (.lst (E.map dSt), f4), x5, some (dSt s, false), some (.lst (rows.map dSt), f7), some (.lst ((SS t rows).map dSt), f8), some (dSt u, false), x10, some (.lst (ds.map dA), true), x12, x13, x14, some (if sf t s = true then .tup ((gp t (tot t - s.sum) s).map dA) else .non, false), some (tpv t s rows, false), x17, x18, x19, x20, x21, x22, x23, x24] bb K := by
      intro K hK
      refine ⟨_, rfl, _, rfl, _, in_rows _ _, _, rfl, ?_⟩
      rw [in_SS H]
      rw [tpv_eq] at hK
      cases e : sf t s with
      | true =>
        refine ⟨(fun _ => ?_), fun z => by cases z⟩
        rw [e, if_pos rfl, if_pos rfl] at hK
        obtain ⟨a1, a2, a3⟩ := hsf e
        have ou := hr.ok o
        have hdn : tot t - u.sum = 0 := by
          rcases a3 with a3 | a3
          · rw [(done_iff ou).mp a3]; omega
          · rw [List.length_range] at a3
            have := sum_le_tot ou
            omega
        rw [hdn] at a2
        simp only [gp, List.append_nil] at a2
        refine ⟨_, rfl, _, rfl, (Nat.le_of_ble_eq_true rfl), ?_⟩
        rw [← a2] at hK
        exact hK
      | false =>
        refine ⟨(fun z => by cases z), fun _ => ?_⟩
        rw [e, if_neg (by decide), if_neg (by decide)] at hK
        exact ⟨_, rfl, _, hsr, _, rfl, (Nat.le_of_ble_eq_true rfl), hK⟩
    refine hB _ ?_
    have hSm : Smp 29 (.tup [if sf t s = true then .tup ((gp t (tot t - s.sum) s).map dA) else .non, tpv t s rows]) := by
      refine Smp_tup (by simp) fun x hx => ?_
      simp only [List.mem_cons, List.not_mem_nil, or_false] at hx
      rw [tpv_eq] at hx
      cases e : sf t s with
      | true =>
        rw [e, if_pos rfl, if_pos rfl] at hx
        rcases hx with rfl | rfl
        · exact dA_Smp 26 _ (by rw [gp_len _ s o (sf_iff.mp e) rfl]; omega)
        · trivial
      | false =>
        rw [e, if_neg (by decide), if_neg (by decide)] at hx
        rcases hx with rfl | rfl
        · trivial
        · exact Sts_Smp ht 25 hR (by omega)
    refine ⟨_, _, same' 29 _ bb hSm, _, rfl, _, rfl, br_f rfl ?_⟩
    exact next _ _ _ _ _ _ _ _ _
theorem blk0 (t : Tr) (E : List Sta) (htr : TrOk t) (hE : ∀ u, u ∈ E ↔ Ok t u) (hEl : E.length ≤ 125) (k : Nat) (b : BS) (hb : BOk b) (f4 : Bool) (x0 x2 x6 x7 x8 x9 x10 x11 x12 x13 x14 x15 x16 x17 x18 x19 x20 x21 x22 x23 x24 : Option (D × Bool)) (Q : Fl × En.Env × BS → Prop)
    (hQ : ∀ (b' : BS) (f4 : Bool) (x5 x6 x7 x8 x9 x10 x11 x12 x13 x14 x15 x16 x17 x18 x19 x20 x21 x22 x23 x24 : Option (D × Bool)), BOk b' → Q (.nxt, [x0, some (.box, false), x2, some (dTr t, false), some (.lst (E.map dSt), f4), x5, x6, x7, x8, x9, x10, x11, x12, x13, x14, x15, x16, x17, x18, x19, x20, x21, x22, x23, x24], b')) :
    wss ⟨call 29, conOf C⟩ 1000000 blkStep [x0, some (.box, false), x2, some (dTr t, false), some (.lst (E.map dSt), f4), some (.int (k : Int), false), x6, x7, x8, x9, x10, x11, x12, x13, x14, x15, x16, x17, x18, x19, x20, x21, x22, x23, x24] b Q := by
  refine ⟨_, rfl, _, gt_nat k, _, rfl, fun hk => ?_, fun hk => ?_⟩
  · have hpos : 0 < E.length := List.length_pos_of_mem ((hE _).mpr (Ok_s0 htr))
    obtain ⟨v, b1, e1, h0, h1, hb1⟩ := call_draw 28 hb (E.length : Int) (by omega) (by omega)
    obtain ⟨j, rfl⟩ := Int.eq_ofNat_of_zero_le h0
    have hj : j < E.length := by omega
    have hg := List.getElem?_eq_getElem hj
    generalize hs : E[j] = s at hg
    have o : Ok t s := (hE s).mp (hs ▸ List.getElem_mem hj)
    refine ⟨_, rfl, _, rfl, _, rfl, _, lenL E dSt, _, _, e1, _, idx_mapl E dSt j s hg, (Nat.le_of_ble_eq_true rfl), ?_⟩
    exact blk1 t E s htr hE hEl o b1 hb1 _ _ _ _ _ _ _ _ _ _ _ _ _ _ _ _ _ _ _ _ _ _ _ fun b' f4 x7 x8 x9 x10 x11 x12 x13 x14 x15 x16 x17 x18 x19 x20 x21 x22 x23 x24 hb' => hQ _ _ _ _ _ _ _ _ _ _ _ _ _ _ _ _ _ _ _ _ _ _ hb'
  · refine ⟨(Nat.le_of_ble_eq_true rfl), _, rfl, _, lenT t, _, zeros t (by have := htr.few; omega), (Nat.le_of_ble_eq_true rfl), ?_⟩
    exact blk1 t E (s0 t) htr hE hEl (Ok_s0 htr) b hb _ _ _ _ _ _ _ _ _ _ _ _ _ _ _ _ _ _ _ _ _ _ _ fun b' f4 x7 x8 x9 x10 x11 x12 x13 x14 x15 x16 x17 x18 x19 x20 x21 x22 x23 x24 hb' => hQ _ _ _ _ _ _ _ _ _ _ _ _ _ _ _ _ _ _ _ _ _ _ hb'
end Lw

namespace Lw
open PySem PySem.Spec PyProof.Rows L2 En
def blkTurn : List CS := [.set 3 (.call 21 (.cons (.var 1) .nil)), .set 4 (.call 30 (.cons (.var 3) .nil)), .forr (.nm 5) (.rng (.cons (.cst (.int 4)) .nil)) [.set 6 (.ife (.cmp .Gt (.var 5) (.cst (.int 0))) (.idx (.var 4) (.call 19 (.cons (.var 1) (.cons (.bi .len (.cons (.var 4) .nil)) .nil)))) (.bin .Mult (.tup (.cons (.cst (.int 0)) .nil)) (.bi .len (.cons (.var 3) .nil)))), .set 7 (.call 25 (.cons (.var 3) (.cons (.var 6) .nil))), .set 8 (.lc (.nm 9) (.it (.var 7)) (.cons (.bi .any (.cons (.lc (.nm 10) (.it (.call 25 (.cons (.var 3) (.cons (.var 9) .nil)))) .nil (.call 26 (.cons (.var 3) (.cons (.var 10) .nil))) [10]) .nil)) .nil) (.var 9) [9]), .ife (.not (.call 20 (.cons (.call 8 (.cons (.var 3) (.cons (.var 6) .nil))) (.cons (.bi .tuple (.cons (.bi .sorted (.cons (.var 7) .nil)) .nil)) .nil)))) [.ret (.cst (.bl false))] [], .par [(.nm 11), (.nm 9)] (.cons (.lst .nil) (.cons (.var 6) .nil)), .forr (.nm 12) (.rng (.cons (.cst (.int 30)) .nil)) [.set 13 (.lc (.nm 14) (.it (.call 23 (.cons (.var 3) (.cons (.var 9) .nil)))) (.cons (.cmp .In (.call 24 (.cons (.var 9) (.cons (.var 14) .nil))) (.var 8)) .nil) (.var 14) [14]), .ife (.cmp .Gt (.bi .len (.cons (.var 13) .nil)) (.cst (.int 0))) [.app 11 (.idx (.var 13) (.cst (.int 0))), .set 9 (.call 24 (.cons (.var 9) (.cons (.idx (.var 13) (.cst (.int 0))) .nil)))] []], .par [(.nm 15), (.nm 16)] (.cons (.call 10 (.cons (.var 3) (.cons (.var 6) .nil))) (.cons (.call 12 (.cons (.var 3) (.cons (.var 6) .nil))) .nil)), .ife (.not (.call 20 (.cons (.tup (.cons (.var 15) (.cons (.var 16) .nil))) (.cons (.ife (.cmp .In (.var 6) (.var 8)) (.tup (.cons (.bi .tuple (.cons (.var 11) .nil)) (.cons (.cst (.non)) .nil))) (.tup (.cons (.cst (.non)) (.cons (.bi .tuple (.cons (.bi .sorted (.cons (.var 7) .nil)) .nil)) .nil)))) .nil)))) [.ret (.cst (.bl false))] [], .ife (.not (.call 20 (.cons (.call 14 (.cons (.var 3) (.cons (.var 6) .nil))) (.cons (.bi .tuple (.cons (.lc (.nm 14) (.it (.call 23 (.cons (.var 3) (.cons (.var 6) .nil)))) (.cons (.cmp .In (.call 24 (.cons (.var 6) (.cons (.var 14) .nil))) (.var 8)) .nil) (.var 14) [14]) .nil)) .nil)))) [.ret (.cst (.bl false))] [], .par [(.nm 9), (.nm 17), (.nm 18)] (.cons (.var 6) (.cons (.lst .nil) (.cons (.cst (.non)) .nil))), .forr (.nm 12) (.rng (.cons (.call 19 (.cons (.var 1) (.cons (.cst (.int 9)) .nil))) .nil)) [.set 13 (.call 23 (.cons (.var 3) (.cons (.var 9) .nil))), .ife (.cmp .Gt (.bi .len (.cons (.var 13) .nil)) (.cst (.int 0))) [.app 17 (.idx (.var 13) (.call 19 (.cons (.var 1) (.cons (.bi .len (.cons (.var 13) .nil)) .nil)))), .set 9 (.call 24 (.cons (.var 9) (.cons (.idx (.var 17) (.neg (.cst (.int 1)))) .nil))), .set 18 (.ife (.bop .And (.cons (.cmp .Is (.var 18) (.cst (.non))) (.cons (.cmp .NotIn (.var 9) (.var 8)) .nil))) (.bin .Sub (.bi .len (.cons (.var 17) .nil)) (.cst (.int 1))) (.var 18))] []], .ife (.bop .And (.cons (.cmp .In (.var 6) (.var 8)) (.cons (.not (.call 20 (.cons (.call 15 (.cons (.var 3) (.cons (.var 6) (.cons (.bi .tuple (.cons (.var 17) .nil)) .nil)))) (.cons (.var 18) .nil)))) .nil))) [.ret (.cst (.bl false))] [], .set 9 (.var 6), .forr (.nm 12) (.rng (.cons (.bi .sum (.cons (.lc (.nm 19) (.it (.var 3)) .nil (.bi .len (.cons (.var 19) .nil)) [19]) .nil)) .nil)) [.set 13 (.ife (.cmp .In (.var 6) (.var 8)) (.call 14 (.cons (.var 3) (.cons (.var 9) .nil))) (.tup .nil)), .ife (.cmp .Gt (.bi .len (.cons (.var 13) .nil)) (.cst (.int 0))) [.set 9 (.call 24 (.cons (.var 9) (.cons (.idx (.var 13) (.call 19 (.cons (.var 1) (.cons (.bi .len (.cons (.var 13) .nil)) .nil)))) .nil)))] []], .ife (.bop .And (.cons (.cmp .In (.var 6) (.var 8)) (.cons (.not (.call 26 (.cons (.var 3) (.cons (.var 9) .nil)))) .nil))) [.ret (.cst (.bl false))] [], .set 20 (.ife (.cmp .IsNot (.var 15) (.cst (.non))) (.var 15) (.bi .tuple (.cons (.var 17) .nil))), .set 21 (.lst (.cons (.var 20) (.cons (.slc (.var 20) (.so (.cst (.int 1))) .no) (.cons (.rev (.var 20)) (.cons (.bin .Add (.var 20) (.slc (.var 20) .no (.so (.cst (.int 1))))) (.cons (.bi .tuple (.cons (.var 17) .nil)) (.cons (.tup (.cons (.cst (.bl true)) .nil)) (.cons (.cst (.non)) (.cons (.cst (.int 0)) (.cons (.tup .nil) .nil)))))))))), .forr (.nm 22) (.it (.bin .Add (.var 21) (.lc (.nm 12) (.rng (.cons (.cst (.int 4)) .nil)) .nil (.call 27 (.cons (.var 1) (.cons (.var 20) .nil))) [12]))) [.ife (.not (.call 20 (.cons (.call 11 (.cons (.var 3) (.cons (.var 6) (.cons (.var 22) .nil)))) (.cons (.call 28 (.cons (.var 3) (.cons (.var 6) (.cons (.var 22) .nil)))) .nil)))) [.ret (.cst (.bl false))] []], .set 23 (.bi .tuple (.cons (.bi .sorted (.cons (.lc (.nm 10) (.it (.var 4)) (.cons (.not (.bi .any (.cons (.lc (.nm 24) (.it (.call 25 (.cons (.var 3) (.cons (.var 10) .nil)))) .nil (.call 26 (.cons (.var 3) (.cons (.var 24) .nil))) [24]) .nil))) .nil) (.var 10) [10]) .nil)) .nil)), .set 20 (.ife (.cmp .IsNot (.var 16) (.cst (.non))) (.var 16) (.var 23)), .forr (.nm 22) (.it (.bin .Add (.lst (.cons (.var 20) (.cons (.var 23) (.cons (.slc (.var 20) (.so (.cst (.int 1))) .no) (.cons (.rev (.var 20)) (.cons (.bin .Add (.var 20) (.slc (.var 20) .no (.so (.cst (.int 1))))) (.cons (.bi .tuple (.cons (.bi .sorted (.cons (.var 7) .nil)) .nil)) (.cons (.tup (.cons (.var 6) .nil)) (.cons (.cst (.non)) (.cons (.cst (.int 0)) (.cons (.tup .nil) .nil))))))))))) (.lc (.nm 12) (.rng (.cons (.cst (.int 4)) .nil)) .nil (.call 27 (.cons (.var 1) (.cons (.var 20) .nil))) [12]))) [.set 11 (.call 29 (.cons (.var 3) (.cons (.var 6) (.cons (.var 22) (.cons (.var 4) .nil))))), .ife (.bop .Or (.cons (.not (.call 20 (.cons (.call 13 (.cons (.var 3) (.cons (.var 6) (.cons (.var 22) .nil)))) (.cons (.var 11) .nil)))) (.cons (.bop .And (.cons (.var 11) (.cons (.cmp .In (.var 6) (.var 8)) .nil))) .nil))) [.ret (.cst (.bl false))] []], .ife (.not (.bi .all (.cons (.lc (.nm 14) (.it (.call 14 (.cons (.var 3) (.cons (.var 6) .nil)))) .nil (.cmp .In (.var 14) (.call 6 (.cons (.var 3) (.cons (.var 6) .nil)))) [14]) .nil))) [.ret (.cst (.bl false))] []]]
theorem turn_blk (b : BS) (hb : BOk b) (x0 x2 x3 x4 x5 x6 x7 x8 x9 x10 x11 x12 x13 x14 x15 x16 x17 x18 x19 x20 x21 x22 x23 x24 : Option (D × Bool)) (Q : Fl × En.Env × BS → Prop)
    (hQ : ∀ (b' : BS) (x3 x4 x5 x6 x7 x8 x9 x10 x11 x12 x13 x14 x15 x16 x17 x18 x19 x20 x21 x22 x23 x24 : Option (D × Bool)), BOk b' → Q (.nxt, [x0, some (.box, false), x2, x3, x4, x5, x6, x7, x8, x9, x10, x11, x12, x13, x14, x15, x16, x17, x18, x19, x20, x21, x22, x23, x24], b')) :
    wss ⟨call 29, conOf C⟩ 1000000 blkTurn [x0, some (.box, false), x2, x3, x4, x5, x6, x7, x8, x9, x10, x11, x12, x13, x14, x15, x16, x17, x18, x19, x20, x21, x22, x23, x24] b Q := by
  obtain ⟨d, b1, e1, hb1, t, rfl, h⟩ := law_traffic_ok 27 b hb
  refine ⟨_, rfl, _, _, e1, (Nat.le_of_ble_eq_true rfl), ?_⟩
  obtain ⟨E, e2, hE, hEl⟩ := law_every_ok 27 t b1 h.tok
  refine ⟨_, rfl, _, _, e2, (Nat.le_of_ble_eq_true rfl), ?_⟩
  refine .inr ⟨_, nat_rng 4 (by omega), ?_⟩
  refine for_pre (List.range 4) (fun i : Nat => .int (i : Int)) (fun pre e b3 => BOk b3 ∧ ∃ f4 x5 x6 x7 x8 x9 x10 x11 x12 x13 x14 x15 x16 x17 x18 x19 x20 x21 x22 x23 x24, e = [x0, some (.box, false), x2, some (dTr t, false), some (.lst (E.map dSt), f4), x5, x6, x7, x8, x9, x10, x11, x12, x13, x14, x15, x16, x17, x18, x19, x20, x21, x22, x23, x24]) ⟨hb1, _, _, _, _, _, _, _, _, _, _, _, _, _, _, _, _, _, _, _, _, _, rfl⟩ (fun pre k rest env b3 hd hi => ?_) fun env b3 hi => ?_
  · obtain ⟨hb3, f4, x5, x6, x7, x8, x9, x10, x11, x12, x13, x14, x15, x16, x17, x18, x19, x20, x21, x22, x23, x24, rfl⟩ := hi
    refine ⟨_, rfl, ?_⟩
    exact blk0 t E h hE hEl k b3 hb3 f4 _ _ _ _ _ _ _ _ _ _ _ _ _ _ _ _ _ _ _ _ _ _ fun b' f4 x5 x6 x7 x8 x9 x10 x11 x12 x13 x14 x15 x16 x17 x18 x19 x20 x21 x22 x23 x24 hb' => ⟨hb', _, _, _, _, _, _, _, _, _, _, _, _, _, _, _, _, _, _, _, _, _, rfl⟩
  · obtain ⟨hb3, f4, x5, x6, x7, x8, x9, x10, x11, x12, x13, x14, x15, x16, x17, x18, x19, x20, x21, x22, x23, x24, rfl⟩ := hi
    exact hQ _ _ _ _ _ _ _ _ _ _ _ _ _ _ _ _ _ _ _ _ _ _ _ hb3
def tF : Tr := [[0, 1], [2, 1]]
def tE : Tr := [[0, 1, 2], [2, 1, 0]]
theorem ROk_of {r : List Int} (h1 : 1 ≤ r.length) (h2 : (r.all fun i => decide (0 ≤ i ∧ i ≤ 9)) = true) (h3 : ((List.range (r.length - 1)).all fun i => decide (r.getD i 0 ≠ r.getD (i + 1) 0)) = true) : ROk r := by
  rw [List.all_eq_true] at h2 h3
  refine ⟨h1, fun i hi => by simpa using h2 i hi, fun i hi => ?_⟩
  have := h3 i (by simp; omega)
  simpa using this
theorem tF_ok : TrOk tF := by
  refine ⟨by decide, fun r hr => ?_, by decide⟩
  simp only [tF, List.mem_cons, List.not_mem_nil, or_false] at hr
  rcases hr with rfl | rfl
  · exact ⟨ROk_of (by decide) (by decide) (by decide), by decide⟩
  · exact ⟨ROk_of (by decide) (by decide) (by decide), by decide⟩
theorem tE_ok : TrOk tE := by
  refine ⟨by decide, fun r hr => ?_, by decide⟩
  simp only [tE, List.mem_cons, List.not_mem_nil, or_false] at hr
  rcases hr with rfl | rfl
  · exact ⟨ROk_of (by decide) (by decide) (by decide), by decide⟩
  · exact ⟨ROk_of (by decide) (by decide) (by decide), by decide⟩
def rE : List Sta := [[0, 0], [1, 0], [0, 1]]
theorem rE_all {u : Sta} (r : Reach tE [0, 0] u) : u ∈ rE := by
  induction r with
  | refl => decide
  | step _ hk ih =>
    have key : ∀ u ∈ rE, ∀ k ∈ moves tE u, nxt u k ∈ rE := by decide
    exact key _ ih _ hk
theorem sf_E : sf tE [0, 0] = false := by
  cases e : sf tE [0, 0] with
  | false => rfl
  | true =>
    obtain ⟨v, r, hd⟩ := sf_iff.mp e
    have key : ∀ u ∈ rE, done tE u = false := by decide
    rw [key v (rE_all r)] at hd
    cases hd
theorem s22 : Safe tF [2, 2] := ⟨_, .refl, by decide⟩
theorem s21 : Safe tF [2, 1] := safe_iff.mpr (.inr ⟨1, by decide, s22⟩)
theorem s20 : Safe tF [2, 0] := safe_iff.mpr (.inr ⟨1, by decide, s21⟩)
theorem s10 : Safe tF [1, 0] := safe_iff.mpr (.inr ⟨0, by decide, s20⟩)
theorem s00 : Safe tF [0, 0] := safe_iff.mpr (.inr ⟨0, by decide, s10⟩)
theorem gp_step {t : Tr} {u : Sta} {k : Nat} {L : List Nat} (m : Nat) (h : moves t u = k :: L) (hs : Safe t (nxt u k)) : gp t (m + 1) u = k :: gp t m (nxt u k) := by
  have : fit t u = k :: L.filter fun k => sf t (nxt u k) := by
    unfold fit
    rw [h, List.filter_cons, if_pos (sf_iff.mpr hs)]
  simp only [gp, this]
theorem gp_F : gp tF 4 [0, 0] = [0, 0, 1, 1] := by
  rw [gp_step (k := 0) (L := [1]) 3 (by decide) s10, gp_step (k := 0) (L := []) 2 (by decide) s20, gp_step (k := 1) (L := []) 1 (by decide) s21, gp_step (k := 1) (L := []) 0 (by decide) s22]
  rfl
theorem main (ns : List Int) (hn : ns.length ≤ 63) : ∃ b, call 30 31 [.fn ns] none = some (.bl true, b) := by
  have := cwp (n := 29) (g := 31) (fd := t_law.fd) rfl rfl [.fn ns] rfl none (fun d b1 => d = .bl true) ?_
  · obtain ⟨d, b, h, rfl⟩ := this
    exact ⟨b, h⟩
  refine ⟨_, rfl, _, _, call_box 28 ns hn, (Nat.le_of_ble_eq_true rfl), ?_⟩
  refine .inr ⟨_, rngD_ok _ (by omega) (by omega), ?_⟩
  refine for_pre (List.range 4) (fun i : Nat => .int (i : Int)) (fun pre e bb => BOk bb ∧ ∃ x2 x3 x4 x5 x6 x7 x8 x9 x10 x11 x12 x13 x14 x15 x16 x17 x18 x19 x20 x21 x22 x23 x24, e = [some (.fn ns, false), some (.box, false), x2, x3, x4, x5, x6, x7, x8, x9, x10, x11, x12, x13, x14, x15, x16, x17, x18, x19, x20, x21, x22, x23, x24]) ⟨⟨_, _, _, rfl⟩, none, none, none, none, none, none, none, none, none, none, none, none, none, none, none, none, none, none, none, none, none, none, none, rfl⟩ (fun pre a rest env bb hd hi => ?_) fun env bb hi => ?_
  · obtain ⟨hb, x2, x3, x4, x5, x6, x7, x8, x9, x10, x11, x12, x13, x14, x15, x16, x17, x18, x19, x20, x21, x22, x23, x24, rfl⟩ := hi
    refine ⟨_, rfl, ?_⟩
    exact turn_blk bb hb _ _ _ _ _ _ _ _ _ _ _ _ _ _ _ _ _ _ _ _ _ _ _ _ _ fun b' y3 y4 y5 y6 y7 y8 y9 y10 y11 y12 y13 y14 y15 y16 y17 y18 y19 y20 y21 y22 y23 y24 hb' => ⟨hb', _, _, _, _, _, _, _, _, _, _, _, _, _, _, _, _, _, _, _, _, _, _, _, rfl⟩
  · obtain ⟨hb, x2, x3, x4, x5, x6, x7, x8, x9, x10, x11, x12, x13, x14, x15, x16, x17, x18, x19, x20, x21, x22, x23, x24, rfl⟩ := hi
    have h1 := safe_moves_ok 24 tE [0, 0] bb tE_ok.tok (Ok_s0 tE_ok)
    rw [sf_E, if_neg (by decide)] at h1
    have h2 := safe_moves_ok 24 tF [0, 0] bb tF_ok.tok (Ok_s0 tF_ok)
    rw [if_pos (sf_iff.mpr s00), show tot tF - List.sum [0, 0] = 4 by decide, gp_F] at h2
    refine ⟨(Nat.le_of_ble_eq_true rfl), (Nat.le_of_ble_eq_true rfl), (Nat.le_of_ble_eq_true rfl), (Nat.le_of_ble_eq_true rfl), _, _, h1, (Nat.le_of_ble_eq_true rfl), (Nat.le_of_ble_eq_true rfl), (Nat.le_of_ble_eq_true rfl), (Nat.le_of_ble_eq_true rfl), _, _, h2, (Nat.le_of_ble_eq_true rfl), (Nat.le_of_ble_eq_true rfl), (Nat.le_of_ble_eq_true rfl), ?_⟩
    have hS : Smp 29 (.tup [.non, .tup ([0, 0, 1, 1].map dA)]) := Smp_tup (by simp) fun x hx => by
      simp only [List.mem_cons, List.not_mem_nil, or_false] at hx
      rcases hx with rfl | rfl
      · trivial
      · exact dA_Smp 26 _ (by simp)
    exact ⟨_, _, same' 29 _ bb hS, rfl⟩
end Lw

namespace Lw
open PySem PySem.Spec PyProof.Rows L2 En
theorem all_mk {l : PySem.W.OpenLaw} {w : World} {K : PySem.W.Frag} {h : Heap} {mg : Str → Option Value} {fa : Addr} (X : K.In h) (G : h.Ns mainGlobals mg) (hfa : mg "law" = some (.ref fa))
    {f0 f1 f2 f3 f4 f5 f6 f7 f8 f9 f10 f11 f12 f13 f14 f15 f16 f17 f18 f19 f20 f21 f22 f23 f24 f25 f26 f27 f28 f29 f30 f31 : Addr}
    {od0 an0 od1 an1 od2 an2 od3 an3 od4 an4 od5 an5 od6 an6 od7 an7 od8 an8 od9 an9 od10 an10 od11 an11 od12 an12 od13 an13 od14 an14 od15 an15 od16 an16 od17 an17 od18 an18 od19 an19 od20 an20 od21 an21 od22 an22 od23 an23 od24 an24 od25 an25 od26 an26 od27 an27 od28 an28 od29 an29 od30 an30 od31 an31 : Option Addr} {sl0 sl1 sl2 sl3 sl4 sl5 sl6 sl7 sl8 sl9 sl10 sl11 sl12 sl13 sl14 sl15 sl16 sl17 sl18 sl19 sl20 sl21 sl22 sl23 sl24 sl25 sl26 sl27 sl28 sl29 sl30 sl31 : Array (Option Value)}
    {oc0 kV0 dc0 pm0 cd0 ct0 oc1 kV1 dc1 pm1 cd1 ct1 oc2 kV2 dc2 pm2 cd2 ct2 oc3 kV3 dc3 pm3 cd3 ct3 oc4 kV4 dc4 pm4 cd4 ct4 oc5 kV5 dc5 pm5 cd5 ct5 oc6 kV6 dc6 pm6 cd6 ct6 oc7 kV7 dc7 pm7 cd7 ct7 oc8 kV8 dc8 pm8 cd8 ct8 oc9 kV9 dc9 pm9 cd9 ct9 oc10 kV10 dc10 pm10 cd10 ct10 oc11 kV11 dc11 pm11 cd11 ct11 oc12 kV12 dc12 pm12 cd12 ct12 oc13 kV13 dc13 pm13 cd13 ct13 oc14 kV14 dc14 pm14 cd14 ct14 oc15 kV15 dc15 pm15 cd15 ct15 oc16 kV16 dc16 pm16 cd16 ct16 oc17 kV17 dc17 pm17 cd17 ct17 oc18 kV18 dc18 pm18 cd18 ct18 oc19 kV19 dc19 pm19 cd19 ct19 oc20 kV20 dc20 pm20 cd20 ct20 oc21 kV21 dc21 pm21 cd21 ct21 oc22 kV22 dc22 pm22 cd22 ct22 oc23 kV23 dc23 pm23 cd23 ct23 oc24 kV24 dc24 pm24 cd24 ct24 oc25 kV25 dc25 pm25 cd25 ct25 oc26 kV26 dc26 pm26 cd26 ct26 oc27 kV27 dc27 pm27 cd27 ct27 oc28 kV28 dc28 pm28 cd28 ct28 oc29 kV29 dc29 pm29 cd29 ct29 oc30 kV30 dc30 pm30 cd30 ct30 oc31 kV31 dc31 pm31 cd31 ct31 : Value}
    (a0 : PySem.W.nsIn K mainGlobals "is_number" = some (some (.ref f0))) (l0 : K.lookup f0 = some ⟨oc0, od0, .func (PySem.W.fnOf "is_number" "is_number" (defArgs t_is_number.st) (defBody t_is_number.st) (defScope t_is_number.st) .none kV0 dc0 pm0 an0 cd0 ct0), sl0⟩) (c0 : PySem.W.codeIn K cd0 "is_number" = true) (k0 : PySem.W.keepIn K (.ref f0) = true)
    (a1 : PySem.W.nsIn K mainGlobals "is_ascending" = some (some (.ref f1))) (l1 : K.lookup f1 = some ⟨oc1, od1, .func (PySem.W.fnOf "is_ascending" "is_ascending" (defArgs t_is_ascending.st) (defBody t_is_ascending.st) (defScope t_is_ascending.st) .none kV1 dc1 pm1 an1 cd1 ct1), sl1⟩) (c1 : PySem.W.codeIn K cd1 "is_ascending" = true) (k1 : PySem.W.keepIn K (.ref f1) = true)
    (a2 : PySem.W.nsIn K mainGlobals "blocks_in" = some (some (.ref f2))) (l2 : K.lookup f2 = some ⟨oc2, od2, .func (PySem.W.fnOf "blocks_in" "blocks_in" (defArgs t_blocks_in.st) (defBody t_blocks_in.st) (defScope t_blocks_in.st) .none kV2 dc2 pm2 an2 cd2 ct2), sl2⟩) (c2 : PySem.W.codeIn K cd2 "blocks_in" = true) (k2 : PySem.W.keepIn K (.ref f2) = true)
    (a3 : PySem.W.nsIn K mainGlobals "is_state" = some (some (.ref f3))) (l3 : K.lookup f3 = some ⟨oc3, od3, .func (PySem.W.fnOf "is_state" "is_state" (defArgs t_is_state.st) (defBody t_is_state.st) (defScope t_is_state.st) .none kV3 dc3 pm3 an3 cd3 ct3), sl3⟩) (c3 : PySem.W.codeIn K cd3 "is_state" = true) (k3 : PySem.W.keepIn K (.ref f3) = true)
    (a4 : PySem.W.nsIn K mainGlobals "is_through" = some (some (.ref f4))) (l4 : K.lookup f4 = some ⟨oc4, od4, .func (PySem.W.fnOf "is_through" "is_through" (defArgs t_is_through.st) (defBody t_is_through.st) (defScope t_is_through.st) .none kV4 dc4 pm4 an4 cd4 ct4), sl4⟩) (c4 : PySem.W.codeIn K cd4 "is_through" = true) (k4 : PySem.W.keepIn K (.ref f4) = true)
    (a5 : PySem.W.nsIn K mainGlobals "next_block" = some (some (.ref f5))) (l5 : K.lookup f5 = some ⟨oc5, od5, .func (PySem.W.fnOf "next_block" "next_block" (defArgs t_next_block.st) (defBody t_next_block.st) (defScope t_next_block.st) .none kV5 dc5 pm5 an5 cd5 ct5), sl5⟩) (c5 : PySem.W.codeIn K cd5 "next_block" = true) (k5 : PySem.W.keepIn K (.ref f5) = true)
    (a6 : PySem.W.nsIn K mainGlobals "can_move" = some (some (.ref f6))) (l6 : K.lookup f6 = some ⟨oc6, od6, .func (PySem.W.fnOf "can_move" "can_move" (defArgs t_can_move.st) (defBody t_can_move.st) (defScope t_can_move.st) .none kV6 dc6 pm6 an6 cd6 ct6), sl6⟩) (c6 : PySem.W.codeIn K cd6 "can_move" = true) (k6 : PySem.W.keepIn K (.ref f6) = true)
    (a7 : PySem.W.nsIn K mainGlobals "state_behind" = some (some (.ref f7))) (l7 : K.lookup f7 = some ⟨oc7, od7, .func (PySem.W.fnOf "state_behind" "state_behind" (defArgs t_state_behind.st) (defBody t_state_behind.st) (defScope t_state_behind.st) .none kV7 dc7 pm7 an7 cd7 ct7), sl7⟩) (c7 : PySem.W.codeIn K cd7 "state_behind" = true) (k7 : PySem.W.keepIn K (.ref f7) = true)
    (a8 : PySem.W.nsIn K mainGlobals "states_from" = some (some (.ref f8))) (l8 : K.lookup f8 = some ⟨oc8, od8, .func (PySem.W.fnOf "states_from" "states_from" (defArgs t_states_from.st) (defBody t_states_from.st) (defScope t_states_from.st) .none kV8 dc8 pm8 an8 cd8 ct8), sl8⟩) (c8 : PySem.W.codeIn K cd8 "states_from" = true) (k8 : PySem.W.keepIn K (.ref f8) = true)
    (a9 : PySem.W.nsIn K mainGlobals "safe_states" = some (some (.ref f9))) (l9 : K.lookup f9 = some ⟨oc9, od9, .func (PySem.W.fnOf "safe_states" "safe_states" (defArgs t_safe_states.st) (defBody t_safe_states.st) (defScope t_safe_states.st) .none kV9 dc9 pm9 an9 cd9 ct9), sl9⟩) (c9 : PySem.W.codeIn K cd9 "safe_states" = true) (k9 : PySem.W.keepIn K (.ref f9) = true)
    (a10 : PySem.W.nsIn K mainGlobals "safe_moves" = some (some (.ref f10))) (l10 : K.lookup f10 = some ⟨oc10, od10, .func (PySem.W.fnOf "safe_moves" "safe_moves" (defArgs t_safe_moves.st) (defBody t_safe_moves.st) (defScope t_safe_moves.st) .none kV10 dc10 pm10 an10 cd10 ct10), sl10⟩) (c10 : PySem.W.codeIn K cd10 "safe_moves" = true) (k10 : PySem.W.keepIn K (.ref f10) = true)
    (a11 : PySem.W.nsIn K mainGlobals "brings_through" = some (some (.ref f11))) (l11 : K.lookup f11 = some ⟨oc11, od11, .func (PySem.W.fnOf "brings_through" "brings_through" (defArgs t_brings_through.st) (defBody t_brings_through.st) (defScope t_brings_through.st) .none kV11 dc11 pm11 an11 cd11 ct11), sl11⟩) (c11 : PySem.W.codeIn K cd11 "brings_through" = true) (k11 : PySem.W.keepIn K (.ref f11) = true)
    (a12 : PySem.W.nsIn K mainGlobals "trap_of" = some (some (.ref f12))) (l12 : K.lookup f12 = some ⟨oc12, od12, .func (PySem.W.fnOf "trap_of" "trap_of" (defArgs t_trap_of.st) (defBody t_trap_of.st) (defScope t_trap_of.st) .none kV12 dc12 pm12 an12 cd12 ct12), sl12⟩) (c12 : PySem.W.codeIn K cd12 "trap_of" = true) (k12 : PySem.W.keepIn K (.ref f12) = true)
    (a13 : PySem.W.nsIn K mainGlobals "is_trap" = some (some (.ref f13))) (l13 : K.lookup f13 = some ⟨oc13, od13, .func (PySem.W.fnOf "is_trap" "is_trap" (defArgs t_is_trap.st) (defBody t_is_trap.st) (defScope t_is_trap.st) .none kV13 dc13 pm13 an13 cd13 ct13), sl13⟩) (c13 : PySem.W.codeIn K cd13 "is_trap" = true) (k13 : PySem.W.keepIn K (.ref f13) = true)
    (a14 : PySem.W.nsIn K mainGlobals "may_move" = some (some (.ref f14))) (l14 : K.lookup f14 = some ⟨oc14, od14, .func (PySem.W.fnOf "may_move" "may_move" (defArgs t_may_move.st) (defBody t_may_move.st) (defScope t_may_move.st) .none kV14 dc14 pm14 an14 cd14 ct14), sl14⟩) (c14 : PySem.W.codeIn K cd14 "may_move" = true) (k14 : PySem.W.keepIn K (.ref f14) = true)
    (a15 : PySem.W.nsIn K mainGlobals "first_mistake" = some (some (.ref f15))) (l15 : K.lookup f15 = some ⟨oc15, od15, .func (PySem.W.fnOf "first_mistake" "first_mistake" (defArgs t_first_mistake.st) (defBody t_first_mistake.st) (defScope t_first_mistake.st) .none kV15 dc15 pm15 an15 cd15 ct15), sl15⟩) (c15 : PySem.W.codeIn K cd15 "first_mistake" = true) (k15 : PySem.W.keepIn K (.ref f15) = true)
    (a16 : PySem.W.nsIn K mainGlobals "_law_flat" = some (some (.ref f16))) (l16 : K.lookup f16 = some ⟨oc16, od16, .func (PySem.W.fnOf "_law_flat" "_law_flat" (defArgs t__law_flat.st) (defBody t__law_flat.st) (defScope t__law_flat.st) .none kV16 dc16 pm16 an16 cd16 ct16), sl16⟩) (c16 : PySem.W.codeIn K cd16 "_law_flat" = true) (k16 : PySem.W.keepIn K (.ref f16) = true)
    (a17 : PySem.W.nsIn K mainGlobals "_law_box" = some (some (.ref f17))) (l17 : K.lookup f17 = some ⟨oc17, od17, .func (PySem.W.fnOf "_law_box" "_law_box" (defArgs t__law_box.st) (defBody t__law_box.st) (defScope t__law_box.st) .none kV17 dc17 pm17 an17 cd17 ct17), sl17⟩) (c17 : PySem.W.codeIn K cd17 "_law_box" = true) (k17 : PySem.W.keepIn K (.ref f17) = true)
    (a18 : PySem.W.nsIn K mainGlobals "_law_load" = some (some (.ref f18))) (l18 : K.lookup f18 = some ⟨oc18, od18, .func (PySem.W.fnOf "_law_load" "_law_load" (defArgs t__law_load.st) (defBody t__law_load.st) (defScope t__law_load.st) .none kV18 dc18 pm18 an18 cd18 ct18), sl18⟩) (c18 : PySem.W.codeIn K cd18 "_law_load" = true) (k18 : PySem.W.keepIn K (.ref f18) = true)
    (a19 : PySem.W.nsIn K mainGlobals "_law_draw" = some (some (.ref f19))) (l19 : K.lookup f19 = some ⟨oc19, od19, .func (PySem.W.fnOf "_law_draw" "_law_draw" (defArgs t__law_draw.st) (defBody t__law_draw.st) (defScope t__law_draw.st) .none kV19 dc19 pm19 an19 cd19 ct19), sl19⟩) (c19 : PySem.W.codeIn K cd19 "_law_draw" = true) (k19 : PySem.W.keepIn K (.ref f19) = true)
    (a20 : PySem.W.nsIn K mainGlobals "_law_same" = some (some (.ref f20))) (l20 : K.lookup f20 = some ⟨oc20, od20, .func (PySem.W.fnOf "_law_same" "_law_same" (defArgs t__law_same.st) (defBody t__law_same.st) (defScope t__law_same.st) .none kV20 dc20 pm20 an20 cd20 ct20), sl20⟩) (c20 : PySem.W.codeIn K cd20 "_law_same" = true) (k20 : PySem.W.keepIn K (.ref f20) = true)
    (a21 : PySem.W.nsIn K mainGlobals "_law_traffic" = some (some (.ref f21))) (l21 : K.lookup f21 = some ⟨oc21, od21, .func (PySem.W.fnOf "_law_traffic" "_law_traffic" (defArgs t__law_traffic.st) (defBody t__law_traffic.st) (defScope t__law_traffic.st) .none kV21 dc21 pm21 an21 cd21 ct21), sl21⟩) (c21 : PySem.W.codeIn K cd21 "_law_traffic" = true) (k21 : PySem.W.keepIn K (.ref f21) = true)
    (a22 : PySem.W.nsIn K mainGlobals "_law_stands" = some (some (.ref f22))) (l22 : K.lookup f22 = some ⟨oc22, od22, .func (PySem.W.fnOf "_law_stands" "_law_stands" (defArgs t__law_stands.st) (defBody t__law_stands.st) (defScope t__law_stands.st) .none kV22 dc22 pm22 an22 cd22 ct22), sl22⟩) (c22 : PySem.W.codeIn K cd22 "_law_stands" = true) (k22 : PySem.W.keepIn K (.ref f22) = true)
    (a23 : PySem.W.nsIn K mainGlobals "_law_moves" = some (some (.ref f23))) (l23 : K.lookup f23 = some ⟨oc23, od23, .func (PySem.W.fnOf "_law_moves" "_law_moves" (defArgs t__law_moves.st) (defBody t__law_moves.st) (defScope t__law_moves.st) .none kV23 dc23 pm23 an23 cd23 ct23), sl23⟩) (c23 : PySem.W.codeIn K cd23 "_law_moves" = true) (k23 : PySem.W.keepIn K (.ref f23) = true)
    (a24 : PySem.W.nsIn K mainGlobals "_law_next" = some (some (.ref f24))) (l24 : K.lookup f24 = some ⟨oc24, od24, .func (PySem.W.fnOf "_law_next" "_law_next" (defArgs t__law_next.st) (defBody t__law_next.st) (defScope t__law_next.st) .none kV24 dc24 pm24 an24 cd24 ct24), sl24⟩) (c24 : PySem.W.codeIn K cd24 "_law_next" = true) (k24 : PySem.W.keepIn K (.ref f24) = true)
    (a25 : PySem.W.nsIn K mainGlobals "_law_from" = some (some (.ref f25))) (l25 : K.lookup f25 = some ⟨oc25, od25, .func (PySem.W.fnOf "_law_from" "_law_from" (defArgs t__law_from.st) (defBody t__law_from.st) (defScope t__law_from.st) .none kV25 dc25 pm25 an25 cd25 ct25), sl25⟩) (c25 : PySem.W.codeIn K cd25 "_law_from" = true) (k25 : PySem.W.keepIn K (.ref f25) = true)
    (a26 : PySem.W.nsIn K mainGlobals "_law_done" = some (some (.ref f26))) (l26 : K.lookup f26 = some ⟨oc26, od26, .func (PySem.W.fnOf "_law_done" "_law_done" (defArgs t__law_done.st) (defBody t__law_done.st) (defScope t__law_done.st) .none kV26 dc26 pm26 an26 cd26 ct26), sl26⟩) (c26 : PySem.W.codeIn K cd26 "_law_done" = true) (k26 : PySem.W.keepIn K (.ref f26) = true)
    (a27 : PySem.W.nsIn K mainGlobals "_law_bent" = some (some (.ref f27))) (l27 : K.lookup f27 = some ⟨oc27, od27, .func (PySem.W.fnOf "_law_bent" "_law_bent" (defArgs t__law_bent.st) (defBody t__law_bent.st) (defScope t__law_bent.st) .none kV27 dc27 pm27 an27 cd27 ct27), sl27⟩) (c27 : PySem.W.codeIn K cd27 "_law_bent" = true) (k27 : PySem.W.keepIn K (.ref f27) = true)
    (a28 : PySem.W.nsIn K mainGlobals "_law_brings" = some (some (.ref f28))) (l28 : K.lookup f28 = some ⟨oc28, od28, .func (PySem.W.fnOf "_law_brings" "_law_brings" (defArgs t__law_brings.st) (defBody t__law_brings.st) (defScope t__law_brings.st) .none kV28 dc28 pm28 an28 cd28 ct28), sl28⟩) (c28 : PySem.W.codeIn K cd28 "_law_brings" = true) (k28 : PySem.W.keepIn K (.ref f28) = true)
    (a29 : PySem.W.nsIn K mainGlobals "_law_is_trap" = some (some (.ref f29))) (l29 : K.lookup f29 = some ⟨oc29, od29, .func (PySem.W.fnOf "_law_is_trap" "_law_is_trap" (defArgs t__law_is_trap.st) (defBody t__law_is_trap.st) (defScope t__law_is_trap.st) .none kV29 dc29 pm29 an29 cd29 ct29), sl29⟩) (c29 : PySem.W.codeIn K cd29 "_law_is_trap" = true) (k29 : PySem.W.keepIn K (.ref f29) = true)
    (a30 : PySem.W.nsIn K mainGlobals "_law_every" = some (some (.ref f30))) (l30 : K.lookup f30 = some ⟨oc30, od30, .func (PySem.W.fnOf "_law_every" "_law_every" (defArgs t__law_every.st) (defBody t__law_every.st) (defScope t__law_every.st) .none kV30 dc30 pm30 an30 cd30 ct30), sl30⟩) (c30 : PySem.W.codeIn K cd30 "_law_every" = true) (k30 : PySem.W.keepIn K (.ref f30) = true)
    (a31 : PySem.W.nsIn K mainGlobals "law" = some (some (.ref f31))) (l31 : K.lookup f31 = some ⟨oc31, od31, .func (PySem.W.fnOf "law" "law" (defArgs t_law.st) (defBody t_law.st) (defScope t_law.st) .none kV31 dc31 pm31 an31 cd31 ct31), sl31⟩) (c31 : PySem.W.codeIn K cd31 "law" = true) (k31 : PySem.W.keepIn K (.ref f31) = true)
    (z0 : PySem.W.nsIn K mainGlobals "len" = some none)
    (z1 : PySem.W.nsIn K mainGlobals "int" = some none)
    (z2 : PySem.W.nsIn K mainGlobals "abs" = some none)
    (z3 : PySem.W.nsIn K mainGlobals "tuple" = some none)
    (z4 : PySem.W.nsIn K mainGlobals "list" = some none)
    (z5 : PySem.W.nsIn K mainGlobals "sum" = some none)
    (z6 : PySem.W.nsIn K mainGlobals "all" = some none)
    (z7 : PySem.W.nsIn K mainGlobals "any" = some none)
    (z8 : PySem.W.nsIn K mainGlobals "max" = some none)
    (z9 : PySem.W.nsIn K mainGlobals "min" = some none)
    (z10 : PySem.W.nsIn K mainGlobals "isinstance" = some none)
    (z11 : PySem.W.nsIn K mainGlobals "range" = some none)
    (z12 : PySem.W.nsIn K mainGlobals "zip" = some none)
    (z13 : PySem.W.nsIn K mainGlobals "enumerate" = some none)
    (z14 : PySem.W.nsIn K mainGlobals "str" = some none)
    (z15 : PySem.W.nsIn K mainGlobals "bool" = some none)
    (z16 : PySem.W.nsIn K mainGlobals "sorted" = some none)
    (z17 : PySem.W.nsIn K mainGlobals "set" = some none)
    (main : ∀ ns : List Int, ns.length ≤ 63 → ∃ b, call 30 31 [.fn ns] none = some (.bl true, b)) :
    ∃ fd : FuncData, (∀ (s : Shared) (v : Value), BindsTo s fd ⟨[v], []⟩ [(("script" : Str), v)]) ∧ ∀ base : Heap, K.In base → base.Ns mainGlobals mg → FnOk l.prog w K mg base CX0 32 fa fd ["script"] (spLaw K) := by
  have F0 := fun_mk (st := t_is_number.st) l0 c0 k0
  have b0 := F0.binds (ps := t_is_number.ps) fun _ _ _ _ _ _ us hl => match us, hl with | [_, _, _], _ => rfl
  have F1 := fun_mk (st := t_is_ascending.st) l1 c1 k1
  have b1 := F1.binds (ps := t_is_ascending.ps) fun _ _ _ _ _ _ us hl => match us, hl with | [_], _ => rfl
  have F2 := fun_mk (st := t_blocks_in.st) l2 c2 k2
  have b2 := F2.binds (ps := t_blocks_in.ps) fun _ _ _ _ _ _ us hl => match us, hl with | [_, _], _ => rfl
  have F3 := fun_mk (st := t_is_state.st) l3 c3 k3
  have b3 := F3.binds (ps := t_is_state.ps) fun _ _ _ _ _ _ us hl => match us, hl with | [_, _], _ => rfl
  have F4 := fun_mk (st := t_is_through.st) l4 c4 k4
  have b4 := F4.binds (ps := t_is_through.ps) fun _ _ _ _ _ _ us hl => match us, hl with | [_, _], _ => rfl
  have F5 := fun_mk (st := t_next_block.st) l5 c5 k5
  have b5 := F5.binds (ps := t_next_block.ps) fun _ _ _ _ _ _ us hl => match us, hl with | [_, _, _], _ => rfl
  have F6 := fun_mk (st := t_can_move.st) l6 c6 k6
  have b6 := F6.binds (ps := t_can_move.ps) fun _ _ _ _ _ _ us hl => match us, hl with | [_, _], _ => rfl
  have F7 := fun_mk (st := t_state_behind.st) l7 c7 k7
  have b7 := F7.binds (ps := t_state_behind.ps) fun _ _ _ _ _ _ us hl => match us, hl with | [_, _, _], _ => rfl
  have F8 := fun_mk (st := t_states_from.st) l8 c8 k8
  have b8 := F8.binds (ps := t_states_from.ps) fun _ _ _ _ _ _ us hl => match us, hl with | [_, _], _ => rfl
  have F9 := fun_mk (st := t_safe_states.st) l9 c9 k9
  have b9 := F9.binds (ps := t_safe_states.ps) fun _ _ _ _ _ _ us hl => match us, hl with | [_, _], _ => rfl
  have F10 := fun_mk (st := t_safe_moves.st) l10 c10 k10
  have b10 := F10.binds (ps := t_safe_moves.ps) fun _ _ _ _ _ _ us hl => match us, hl with | [_, _], _ => rfl
  have F11 := fun_mk (st := t_brings_through.st) l11 c11 k11
  have b11 := F11.binds (ps := t_brings_through.ps) fun _ _ _ _ _ _ us hl => match us, hl with | [_, _, _], _ => rfl
  have F12 := fun_mk (st := t_trap_of.st) l12 c12 k12
  have b12 := F12.binds (ps := t_trap_of.ps) fun _ _ _ _ _ _ us hl => match us, hl with | [_, _], _ => rfl
  have F13 := fun_mk (st := t_is_trap.st) l13 c13 k13
  have b13 := F13.binds (ps := t_is_trap.ps) fun _ _ _ _ _ _ us hl => match us, hl with | [_, _, _], _ => rfl
  have F14 := fun_mk (st := t_may_move.st) l14 c14 k14
  have b14 := F14.binds (ps := t_may_move.ps) fun _ _ _ _ _ _ us hl => match us, hl with | [_, _], _ => rfl
  have F15 := fun_mk (st := t_first_mistake.st) l15 c15 k15
  have b15 := F15.binds (ps := t_first_mistake.ps) fun _ _ _ _ _ _ us hl => match us, hl with | [_, _, _], _ => rfl
  have F16 := fun_mk (st := t__law_flat.st) l16 c16 k16
  have b16 := F16.binds (ps := t__law_flat.ps) fun _ _ _ _ _ _ us hl => match us, hl with | [_], _ => rfl
  have F17 := fun_mk (st := t__law_box.st) l17 c17 k17
  have b17 := F17.binds (ps := t__law_box.ps) fun _ _ _ _ _ _ us hl => match us, hl with | [_], _ => rfl
  have F18 := fun_mk (st := t__law_load.st) l18 c18 k18
  have b18 := F18.binds (ps := t__law_load.ps) fun _ _ _ _ _ _ us hl => match us, hl with | [_], _ => rfl
  have F19 := fun_mk (st := t__law_draw.st) l19 c19 k19
  have b19 := F19.binds (ps := t__law_draw.ps) fun _ _ _ _ _ _ us hl => match us, hl with | [_, _], _ => rfl
  have F20 := fun_mk (st := t__law_same.st) l20 c20 k20
  have b20 := F20.binds (ps := t__law_same.ps) fun _ _ _ _ _ _ us hl => match us, hl with | [_, _], _ => rfl
  have F21 := fun_mk (st := t__law_traffic.st) l21 c21 k21
  have b21 := F21.binds (ps := t__law_traffic.ps) fun _ _ _ _ _ _ us hl => match us, hl with | [_], _ => rfl
  have F22 := fun_mk (st := t__law_stands.st) l22 c22 k22
  have b22 := F22.binds (ps := t__law_stands.ps) fun _ _ _ _ _ _ us hl => match us, hl with | [_, _], _ => rfl
  have F23 := fun_mk (st := t__law_moves.st) l23 c23 k23
  have b23 := F23.binds (ps := t__law_moves.ps) fun _ _ _ _ _ _ us hl => match us, hl with | [_, _], _ => rfl
  have F24 := fun_mk (st := t__law_next.st) l24 c24 k24
  have b24 := F24.binds (ps := t__law_next.ps) fun _ _ _ _ _ _ us hl => match us, hl with | [_, _], _ => rfl
  have F25 := fun_mk (st := t__law_from.st) l25 c25 k25
  have b25 := F25.binds (ps := t__law_from.ps) fun _ _ _ _ _ _ us hl => match us, hl with | [_, _], _ => rfl
  have F26 := fun_mk (st := t__law_done.st) l26 c26 k26
  have b26 := F26.binds (ps := t__law_done.ps) fun _ _ _ _ _ _ us hl => match us, hl with | [_, _], _ => rfl
  have F27 := fun_mk (st := t__law_bent.st) l27 c27 k27
  have b27 := F27.binds (ps := t__law_bent.ps) fun _ _ _ _ _ _ us hl => match us, hl with | [_, _], _ => rfl
  have F28 := fun_mk (st := t__law_brings.st) l28 c28 k28
  have b28 := F28.binds (ps := t__law_brings.ps) fun _ _ _ _ _ _ us hl => match us, hl with | [_, _, _], _ => rfl
  have F29 := fun_mk (st := t__law_is_trap.st) l29 c29 k29
  have b29 := F29.binds (ps := t__law_is_trap.ps) fun _ _ _ _ _ _ us hl => match us, hl with | [_, _, _, _], _ => rfl
  have F30 := fun_mk (st := t__law_every.st) l30 c30 k30
  have b30 := F30.binds (ps := t__law_every.ps) fun _ _ _ _ _ _ us hl => match us, hl with | [_], _ => rfl
  have F31 := fun_mk (st := t_law.st) l31 c31 k31
  have b31 := F31.binds (ps := t_law.ps) fun _ _ _ _ _ _ us hl => match us, hl with | [_], _ => rfl
  have hA : AllF K mg T := ⟨⟨_, _, F0, PySem.W.mg_of X G a0, b0⟩, ⟨_, _, F1, PySem.W.mg_of X G a1, b1⟩, ⟨_, _, F2, PySem.W.mg_of X G a2, b2⟩, ⟨_, _, F3, PySem.W.mg_of X G a3, b3⟩, ⟨_, _, F4, PySem.W.mg_of X G a4, b4⟩, ⟨_, _, F5, PySem.W.mg_of X G a5, b5⟩, ⟨_, _, F6, PySem.W.mg_of X G a6, b6⟩, ⟨_, _, F7, PySem.W.mg_of X G a7, b7⟩, ⟨_, _, F8, PySem.W.mg_of X G a8, b8⟩, ⟨_, _, F9, PySem.W.mg_of X G a9, b9⟩, ⟨_, _, F10, PySem.W.mg_of X G a10, b10⟩, ⟨_, _, F11, PySem.W.mg_of X G a11, b11⟩, ⟨_, _, F12, PySem.W.mg_of X G a12, b12⟩, ⟨_, _, F13, PySem.W.mg_of X G a13, b13⟩, ⟨_, _, F14, PySem.W.mg_of X G a14, b14⟩, ⟨_, _, F15, PySem.W.mg_of X G a15, b15⟩, ⟨_, _, F16, PySem.W.mg_of X G a16, b16⟩, ⟨_, _, F17, PySem.W.mg_of X G a17, b17⟩, ⟨_, _, F18, PySem.W.mg_of X G a18, b18⟩, ⟨_, _, F19, PySem.W.mg_of X G a19, b19⟩, ⟨_, _, F20, PySem.W.mg_of X G a20, b20⟩, ⟨_, _, F21, PySem.W.mg_of X G a21, b21⟩, ⟨_, _, F22, PySem.W.mg_of X G a22, b22⟩, ⟨_, _, F23, PySem.W.mg_of X G a23, b23⟩, ⟨_, _, F24, PySem.W.mg_of X G a24, b24⟩, ⟨_, _, F25, PySem.W.mg_of X G a25, b25⟩, ⟨_, _, F26, PySem.W.mg_of X G a26, b26⟩, ⟨_, _, F27, PySem.W.mg_of X G a27, b27⟩, ⟨_, _, F28, PySem.W.mg_of X G a28, b28⟩, ⟨_, _, F29, PySem.W.mg_of X G a29, b29⟩, ⟨_, _, F30, PySem.W.mg_of X G a30, b30⟩, ⟨_, _, F31, PySem.W.mg_of X G a31, b31⟩, trivial⟩
  have hC : AllC K w mg C := trivial
  have hN : AllN mg bis := ⟨PySem.W.mg_none_of X G z0, PySem.W.mg_none_of X G z1, PySem.W.mg_none_of X G z2, PySem.W.mg_none_of X G z3, PySem.W.mg_none_of X G z4, PySem.W.mg_none_of X G z5, PySem.W.mg_none_of X G z6, PySem.W.mg_none_of X G z7, PySem.W.mg_none_of X G z8, PySem.W.mg_none_of X G z9, PySem.W.mg_none_of X G z10, PySem.W.mg_none_of X G z11, PySem.W.mg_none_of X G z12, PySem.W.mg_none_of X G z13, PySem.W.mg_none_of X G z14, PySem.W.mg_none_of X G z15, PySem.W.mg_none_of X G z16, PySem.W.mg_none_of X G z17, trivial⟩
  have e := hfa.symm.trans (PySem.W.mg_of X G a31)
  cases e
  exact law_fin (W := 1000000) (n := 30) (gl := 31) (t := t_law) (seen_of hA hC hN) ck rfl rfl rfl rfl (fun ns hn => by have := main ns hn; simp only [call, callI_eq] at this; exact this) F31 (PySem.W.mg_of X G a31) fun u => rfl
end Lw
open PySem PySem.W PyProof.Rows
set_option maxHeartbeats 0 in
theorem PySem.Challenge.cw_loopsclosed_k46_whole_safe_moves_and_tra_holds : PySem.Challenge.rw_loopsclosed_k46_whole_safe_moves_and_tra.Holds := by
  w_on; o_law; k_head; (case hw => w_witness2)
  k_fill
  refine L2.walk_of (l := PySem.Challenge.rw_loopsclosed_k46_whole_safe_moves_and_tra) (n := 63) (k := 32) (x := "script") (CX := fun _ => L2.CX0) (sp := fun w => En.spLaw _) rfl (by decide) rfl ⟨rfl, by decide, by decide⟩ (fun w h Y => PySem.W.kIn_of Y) ?F (fun _ H a ns hl hO hS => ⟨a, ns, rfl, hl, hO, hS, fun _ => rfl⟩) (fun _ _ _ _ _ h => h)
  case F =>
    intro w mg fa h KX G hmg
    refine' Lw.all_mk KX G hmg ?a0 ?l0 ?c0 ?k0 ?a1 ?l1 ?c1 ?k1 ?a2 ?l2 ?c2 ?k2 ?a3 ?l3 ?c3 ?k3 ?a4 ?l4 ?c4 ?k4 ?a5 ?l5 ?c5 ?k5 ?a6 ?l6 ?c6 ?k6 ?a7 ?l7 ?c7 ?k7 ?a8 ?l8 ?c8 ?k8 ?a9 ?l9 ?c9 ?k9 ?a10 ?l10 ?c10 ?k10 ?a11 ?l11 ?c11 ?k11 ?a12 ?l12 ?c12 ?k12 ?a13 ?l13 ?c13 ?k13 ?a14 ?l14 ?c14 ?k14 ?a15 ?l15 ?c15 ?k15 ?a16 ?l16 ?c16 ?k16 ?a17 ?l17 ?c17 ?k17 ?a18 ?l18 ?c18 ?k18 ?a19 ?l19 ?c19 ?k19 ?a20 ?l20 ?c20 ?k20 ?a21 ?l21 ?c21 ?k21 ?a22 ?l22 ?c22 ?k22 ?a23 ?l23 ?c23 ?k23 ?a24 ?l24 ?c24 ?k24 ?a25 ?l25 ?c25 ?k25 ?a26 ?l26 ?c26 ?k26 ?a27 ?l27 ?c27 ?k27 ?a28 ?l28 ?c28 ?k28 ?a29 ?l29 ?c29 ?k29 ?a30 ?l30 ?c30 ?k30 ?a31 ?l31 ?c31 ?k31 ?z0 ?z1 ?z2 ?z3 ?z4 ?z5 ?z6 ?z7 ?z8 ?z9 ?z10 ?z11 ?z12 ?z13 ?z14 ?z15 ?z16 ?z17 Lw.main
    (case a0 => k_is)
    (case l0 => k_is)
    (case c0 => k_is)
    (case k0 => k_is)
    (case a1 => k_is)
    (case l1 => k_is)
    (case c1 => k_is)
    (case k1 => k_is)
    (case a2 => k_is)
    (case l2 => k_is)
    (case c2 => k_is)
    (case k2 => k_is)
    (case a3 => k_is)
    (case l3 => k_is)
    (case c3 => k_is)
    (case k3 => k_is)
    (case a4 => k_is)
    (case l4 => k_is)
    (case c4 => k_is)
    (case k4 => k_is)
    (case a5 => k_is)
    (case l5 => k_is)
    (case c5 => k_is)
    (case k5 => k_is)
    (case a6 => k_is)
    (case l6 => k_is)
    (case c6 => k_is)
    (case k6 => k_is)
    (case a7 => k_is)
    (case l7 => k_is)
    (case c7 => k_is)
    (case k7 => k_is)
    (case a8 => k_is)
    (case l8 => k_is)
    (case c8 => k_is)
    (case k8 => k_is)
    (case a9 => k_is)
    (case l9 => k_is)
    (case c9 => k_is)
    (case k9 => k_is)
    (case a10 => k_is)
    (case l10 => k_is)
    (case c10 => k_is)
    (case k10 => k_is)
    (case a11 => k_is)
    (case l11 => k_is)
    (case c11 => k_is)
    (case k11 => k_is)
    (case a12 => k_is)
    (case l12 => k_is)
    (case c12 => k_is)
    (case k12 => k_is)
    (case a13 => k_is)
    (case l13 => k_is)
    (case c13 => k_is)
    (case k13 => k_is)
    (case a14 => k_is)
    (case l14 => k_is)
    (case c14 => k_is)
    (case k14 => k_is)
    (case a15 => k_is)
    (case l15 => k_is)
    (case c15 => k_is)
    (case k15 => k_is)
    (case a16 => k_is)
    (case l16 => k_is)
    (case c16 => k_is)
    (case k16 => k_is)
    (case a17 => k_is)
    (case l17 => k_is)
    (case c17 => k_is)
    (case k17 => k_is)
    (case a18 => k_is)
    (case l18 => k_is)
    (case c18 => k_is)
    (case k18 => k_is)
    (case a19 => k_is)
    (case l19 => k_is)
    (case c19 => k_is)
    (case k19 => k_is)
    (case a20 => k_is)
    (case l20 => k_is)
    (case c20 => k_is)
    (case k20 => k_is)
    (case a21 => k_is)
    (case l21 => k_is)
    (case c21 => k_is)
    (case k21 => k_is)
    (case a22 => k_is)
    (case l22 => k_is)
    (case c22 => k_is)
    (case k22 => k_is)
    (case a23 => k_is)
    (case l23 => k_is)
    (case c23 => k_is)
    (case k23 => k_is)
    (case a24 => k_is)
    (case l24 => k_is)
    (case c24 => k_is)
    (case k24 => k_is)
    (case a25 => k_is)
    (case l25 => k_is)
    (case c25 => k_is)
    (case k25 => k_is)
    (case a26 => k_is)
    (case l26 => k_is)
    (case c26 => k_is)
    (case k26 => k_is)
    (case a27 => k_is)
    (case l27 => k_is)
    (case c27 => k_is)
    (case k27 => k_is)
    (case a28 => k_is)
    (case l28 => k_is)
    (case c28 => k_is)
    (case k28 => k_is)
    (case a29 => k_is)
    (case l29 => k_is)
    (case c29 => k_is)
    (case k29 => k_is)
    (case a30 => k_is)
    (case l30 => k_is)
    (case c30 => k_is)
    (case k30 => k_is)
    (case a31 => k_is)
    (case l31 => k_is)
    (case c31 => k_is)
    (case k31 => k_is)
    (case z0 => k_is)
    (case z1 => k_is)
    (case z2 => k_is)
    (case z3 => k_is)
    (case z4 => k_is)
    (case z5 => k_is)
    (case z6 => k_is)
    (case z7 => k_is)
    (case z8 => k_is)
    (case z9 => k_is)
    (case z10 => k_is)
    (case z11 => k_is)
    (case z12 => k_is)
    (case z13 => k_is)
    (case z14 => k_is)
    (case z15 => k_is)
    (case z16 => k_is)
    (case z17 => k_is)
