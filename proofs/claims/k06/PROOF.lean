import PyProof.Rows.All
import HandS.ForMost
import HandS.Exc
import HandS.ExcOwn
import HandS.WordsExc
import HandS.IsInst
import HandS.CallSlots
import HandS.TupAny
import HandS.TupLe
import HandS.Deep
import HandS.WordsDict
import HandS.StrMore
import HandS.More
import HandS.Zip
import HandS.Text
import HandS.Ends
import HandS.RaiseMore
import KE.DataMinMax
import HandS.SortKw
import HandS.Set
import KE.SortData
import PyProof.Rows.SetFrom
import HandS.TupSets
import KE.KDictPairs
import HandS.SetKeys
import HandS.Iter
import HandS.Style
import HandS.ListItems
import PyProof.Transfer
import KE.GoesMore
import KE.KDictZip
import KE.DataMinKey
import PyProof.FitsInt
import PyProof.StrLawsRepr
import PySem.Challenge.RW_corestore_k06_same_but_for_names
set_option Elab.async false
set_option linter.all false
set_option maxRecDepth 100000
/-! part nought: tuples made, known to be plain -/
namespace DL
open PySem PySem.Spec L2 PyProof.Rows PySem.W
/-- a new tuple, its object known -/
def NewT (H : Hp) (xs : List V) (Q : VK) : Prop := ∀ (p : Addr) (o : Obj), H p = none → o.dict = none → Q (.ref p) (upd H p (.frz o (.tup xs)))
section
variable {X : Cx}
theorem laid_tup {pins : List (Addr × Obj)} {σ : L2.St} {H : Hp} {s : Shared} {xs : List V} {its : List Value} {Q : VK} (I : L2.Inv X pins σ H s) (r : Vals xs its) (hz : xs.length ≤ sizeLine) (q : NewT H xs Q) :
    ∃ x H', L2.Inv X pins σ H' { s with heap := s.heap.push { cls := .type "tuple", data := .seq its.toArray } } ∧ RelV x (.ref s.heap.objs.size) ∧ Q x H' := by
  refine ⟨.ref s.heap.objs.size, _, I.laid (t' := s.toks) (o := .frz { cls := .type "tuple", data := .seq its.toArray } (.tup xs)) (fun b ob q => Heap.get?_push_of_some _ q) (Nat.le_refl _) ?_, rfl, q _ _ (I.hok.fresh (Nat.le_refl _)) rfl⟩
  exact ⟨Heap.get?_push_size _ rfl, hz, its, r, IsTup.new _ _⟩
/-- t + u -/
def rCatF (K : PySem.W.Frag) : R2 := fun x y H Q => ∃ a b xs ys, x = .ref a ∧ y = .ref b ∧ SqT K H a xs ∧ SqT K H b ys ∧ xs.length + ys.length ≤ sizeLine ∧
  (xs = [] → Q (.ref b) H) ∧ (xs ≠ [] → ys = [] → Q (.ref a) H) ∧ (xs ≠ [] → ys ≠ [] → NewT H (xs ++ ys) Q)
theorem op_catF : OpR X (binaryOp .Add) (rCatF X.K) := by
  intro pins s σ H x y v u Q I rx ry h
  obtain ⟨a, b, xs, ys, rfl, rfl, ha, hb, hz, q0, q1, q2⟩ := h
  by_cases hx : xs = []
  · exact op_catA pins s σ H _ _ v u Q I rx ry ⟨a, b, xs, ys, rfl, rfl, ha, hb, hz, q0, q1, fun z => absurd hx z⟩
  · cases rx
    cases ry
    obtain ⟨its, r1, p1, _⟩ := I.tuple ha
    obtain ⟨its2, r2, p2, _⟩ := I.tuple hb
    refine HT.cat_tup p1 p2 (fun z => hx (r1.nil_iff.mp z)) (fun z => ⟨.ref a, H, I, rfl, q1 hx (r2.nil_iff.mp z)⟩) (fun z => ?_) (by rw [← r1.length, ← r2.length]; exact hz)
    exact laid_tup I (r1.append r2) (by rw [List.length_append]; exact hz) (q2 hx fun w => z (r2.nil_iff.mpr w))
/-- t[lo:hi] -/
def rSlF (K : PySem.W.Frag) : V → Option Int → Option Int → Hp → VK → Prop := fun x lo hi H Q => ∃ a xs, x = .ref a ∧ SqT K H a xs ∧
  (HT.sIx xs.length 0 lo = 0 ∧ HT.sIx xs.length xs.length hi = xs.length → Q (.ref a) H) ∧ (¬ (HT.sIx xs.length 0 lo = 0 ∧ HT.sIx xs.length xs.length hi = xs.length) → NewT H (cutV xs lo hi) Q)
theorem sl_tupF : SlR X (rSlF X.K) := by
  intro pins s σ H x v vl vu lo hi sl Q I rx hs pl pu h
  obtain ⟨a, xs, rfl, hx, q1, q2⟩ := h
  by_cases hw : HT.sIx xs.length 0 lo = 0 ∧ HT.sIx xs.length xs.length hi = xs.length
  · exact sl_tupA pins s σ H _ v vl vu lo hi sl Q I rx hs pl pu ⟨a, xs, rfl, hx, q1, fun z => absurd hw z⟩
  · cases rx
    obtain ⟨its, r, ht, hz⟩ := I.tuple hx
    have hlen : its.toArray.size = xs.length := by rw [List.size_toArray]; exact r.length.symm
    refine ⟨"tuple", _, PyProof.Rows.slot_tuple_getitem.lookup, ht.typeIs, ?_⟩
    refine HT.getItem_tuple_cut ht hs pl pu (by rw [hlen]; exact hw) ?_ (by rw [hlen]; exact hz)
    rw [hlen]
    exact laid_tup I ((r.drop (HT.sIx xs.length 0 lo)).take (HT.sIx xs.length xs.length hi - HT.sIx xs.length 0 lo)) (Nat.le_trans (cutV_length xs lo hi) hz) (q2 hw)
/-- tuple(x) -/
theorem call_tupleF : CallR X (.type "tuple") (fun xs H Q => ∃ p ys, xs = [.ref p] ∧ ((SqL X.K H p ys ∧ NewT H ys Q) ∨ (SqT X.K H p ys ∧ Q (.ref p) H))) := by
  intro pins s σ H xs us Q I r h
  obtain ⟨p, ys, rfl, h⟩ := h
  rcases h with ⟨hq, q⟩ | h
  · obtain ⟨u, rfl, rx⟩ := vals1 r
    cases rx
    obtain ⟨its, r', pl, hz⟩ := I.list hq
    have hlen := r'.length
    refine call_tuple_list pl.isList (fun h' kp => ?_) (by simp only [List.size_toArray] <;> omega)
    have I1 : L2.Inv X pins σ H { s with heap := h' } := I.kept (t' := s.toks) kp
    exact laid_tup I1 r' hz q
  · exact call_tuple_of pins s σ H _ us Q I r ⟨p, ys, rfl, .inr h⟩
/-- a tuple's display -/
def tTupF (t : TA) : TE := fun σ H Q => t σ H fun xs H1 => xs.length ≤ sizeLine ∧ NewT H1 xs Q
theorem pe_tupF {es : List Expr} {t : TA} {pos : Pos} {x1} (h : PA X es t) : PE X (.Tuple es x1 pos) (tTupF t) := by
  refine ⟨fun pins s σ H Q I hq => ?_⟩
  refine wpAny_Tuple_spliced (thn (h.run pos pins s σ H _ I hq) fun us s1 ⟨xs, H1, I1, r, z, q⟩ => ⟨by rw [← r.length]; exact z, ?_⟩)
  exact laid_tup I1 r z q
end
end DL

/-! part one: plain data, and how it stands in the abstract heap -/
namespace DL
open PySem PySem.Spec L2

/-- plain data -/
inductive D where
  | non
  | bl (b : Bool)
  | int (i : Int)
  | str (s : Str)
  | tup (l : List D)
  | lst (l : List D)
  | dct (ks : List Key) (vs : List D)
  | deck
  | obj (a : Addr)

/-- an error in flight: its class, its fields -/
structure XD where
  cls : Str
  fs : List (Str × D)

/-- where the deck stands, and the numbers that it draws from -/
abbrev DkT := Option (Addr × Addr)
def IsDk (dk : DkT) (a : Addr) : Prop := ∃ p s, dk = some (p, s) ∧ (a = p ∨ a = s)
def isTupD : D → Bool
  | .tup _ => true
  | _ => false
/-- tuples all: what dict(..) may be made of -/
def tupsB (ds : List D) : Bool := ds.all isTupD
/-- a tuple of which the object itself is known -/
def PlT (K : PySem.W.Frag) (H : Hp) (a : Addr) : Prop := (∃ (o : Obj) (xs : List V), H a = some (.frz o (.tup xs)) ∧ o.dict = none) ∨ ∃ o, K.lookup a = some o ∧ o.dict = none
theorem PlT.mono {K : PySem.W.Frag} {H H' : Hp} {a : Addr} (hf : ∀ a ob u, H a = some (.frz ob u) → H' a = some (.frz ob u)) (h : PlT K H a) : PlT K H' a := by
  rcases h with ⟨o, xs, h, d⟩ | h
  · exact .inl ⟨o, xs, hf _ _ _ h, d⟩
  · exact .inr h
mutual
/-- v stands for the data d in H; lists and dicts within avoid A; dk: where the deck stands -/
inductive Rp (K : PySem.W.Frag) (dk : DkT) (H : Hp) (A : Addr → Prop) : V → D → Prop
  | non : Rp K dk H A .non .non
  | bl (b : Bool) : Rp K dk H A (.bl b) (.bl b)
  | int (i : Int) : Rp K dk H A (.int i) (.int i)
  | str {s : Str} : PyData.strOk s = true → Rp K dk H A (.str s) (.str s)
  | tup {a : Addr} {xs : List V} {ds : List D} : SqT K H a xs → RpL K dk H A xs ds → (tupsB ds = true → PlT K H a) → Rp K dk H A (.ref a) (.tup ds)
  | lst {a : Addr} {xs : List V} {ds : List D} : H a = some (.lst xs) → ¬ A a → RpL K dk H A xs ds → Rp K dk H A (.ref a) (.lst ds)
  | dct {a : Addr} {kvs : List (Key × V)} {ks : List Key} {ds : List D} : Rd H a (.dK kvs) → ¬ A a → kvs.map (·.1) = ks → RpL K dk H A (kvs.map (·.2)) ds → Rp K dk H A (.ref a) (.dct ks ds)
  | deck {a s : Addr} : dk = some (a, s) → Rp K dk H A (.ref a) .deck
  | obj {a : Addr} : Rp K dk H A (.ref a) (.obj a)
inductive RpL (K : PySem.W.Frag) (dk : DkT) (H : Hp) (A : Addr → Prop) : List V → List D → Prop
  | nil : RpL K dk H A [] []
  | cons {v : V} {vs : List V} {d : D} {ds : List D} : Rp K dk H A v d → RpL K dk H A vs ds → RpL K dk H A (v :: vs) (d :: ds)
end

section
variable {K : PySem.W.Frag} {dk : DkT} {H H' : Hp} {A B : Addr → Prop}

theorem RpL.length : ∀ {vs : List V} {ds : List D}, RpL K dk H A vs ds → vs.length = ds.length
  | _, _, .nil => rfl
  | _, _, .cons _ t => by simp [RpL.length t]
theorem RpL.append : ∀ {vs ws : List V} {ds es : List D}, RpL K dk H A vs ds → RpL K dk H A ws es → RpL K dk H A (vs ++ ws) (ds ++ es)
  | _, _, _, _, .nil, s => s
  | _, _, _, _, .cons r t, s => .cons r (RpL.append t s)
theorem RpL.get : ∀ {vs : List V} {ds : List D} {i : Nat} {v : V}, RpL K dk H A vs ds → vs[i]? = some v → ∃ d, ds[i]? = some d ∧ Rp K dk H A v d
  | _, _, _, _, .nil, e => by simp at e
  | _, _, 0, _, .cons r _, e => by
    simp at e
    subst e
    exact ⟨_, rfl, r⟩
  | _, _, i + 1, _, .cons _ t, e => by
    obtain ⟨d, h1, h2⟩ := RpL.get (i := i) t (by simpa using e)
    exact ⟨d, by simpa using h1, h2⟩
theorem RpL.getD : ∀ {vs : List V} {ds : List D} {i : Nat} {d : D}, RpL K dk H A vs ds → ds[i]? = some d → ∃ v, vs[i]? = some v ∧ Rp K dk H A v d
  | _, _, _, _, .nil, e => by simp at e
  | _, _, 0, _, .cons r _, e => by
    simp at e
    subst e
    exact ⟨_, rfl, r⟩
  | _, _, i + 1, _, .cons _ t, e => by
    obtain ⟨d, h1, h2⟩ := RpL.getD (i := i) t (by simpa using e)
    exact ⟨d, by simpa using h1, h2⟩
theorem RpL.take : ∀ {vs : List V} {ds : List D} (n : Nat), RpL K dk H A vs ds → RpL K dk H A (vs.take n) (ds.take n)
  | _, _, 0, _ => by simp; exact .nil
  | _, _, _ + 1, .nil => by simp; exact .nil
  | _, _, n + 1, .cons r t => by simp; exact .cons r (RpL.take n t)
theorem RpL.drop : ∀ {vs : List V} {ds : List D} (n : Nat), RpL K dk H A vs ds → RpL K dk H A (vs.drop n) (ds.drop n)
  | _, _, 0, r => by simpa using r
  | _, _, _ + 1, .nil => by simp; exact .nil
  | _, _, n + 1, .cons _ t => by simp; exact RpL.drop n t
theorem RpL.set : ∀ {vs : List V} {ds : List D} (i : Nat) {v : V} {d : D}, RpL K dk H A vs ds → Rp K dk H A v d → RpL K dk H A (vs.set i v) (ds.set i d)
  | _, _, _, _, _, .nil, _ => by simp; exact .nil
  | _, _, 0, _, _, .cons _ t, r => by simp; exact .cons r t
  | _, _, i + 1, _, _, .cons r t, q => by simp; exact .cons r (RpL.set i t q)
theorem RpL.mem : ∀ {vs : List V} {ds : List D} {v : V}, RpL K dk H A vs ds → v ∈ vs → ∃ d, d ∈ ds ∧ Rp K dk H A v d
  | _, _, _, .nil, e => by simp at e
  | _, _, _, .cons r t, e => by
    rcases List.mem_cons.mp e with rfl | e
    · exact ⟨_, List.mem_cons_self, r⟩
    · obtain ⟨d, h1, h2⟩ := RpL.mem t e
      exact ⟨d, List.mem_cons_of_mem _ h1, h2⟩

mutual
/-- the heap grows, fewer addresses are avoided -/
theorem Rp.mono (hk : ∀ a o, H a = some o → A a ∨ (∃ xs, o = .tup xs) ∨ (∃ ob u, o = .frz ob u) ∨ H' a = some o) (ht : ∀ a xs, H a = some (.tup xs) → H' a = some (.tup xs)) (hf : ∀ a ob u, H a = some (.frz ob u) → H' a = some (.frz ob u)) (hB : ∀ a, B a → A a) :
    ∀ {v : V} {d : D}, Rp K dk H A v d → Rp K dk H' B v d
  | _, _, .non => .non
  | _, _, .bl b => .bl b
  | _, _, .int i => .int i
  | _, _, .str s => .str s
  | _, _, .tup h t p => by
    refine .tup ?_ (RpL.mono hk ht hf hB t) fun e => (p e).mono hf
    rcases h with (h | ⟨o, h⟩) | h
    · exact .inl (.inl (ht _ _ h))
    · exact .inl (.inr ⟨o, hf _ _ _ h⟩)
    · exact .inr h
  | _, _, .lst h n t => by
    refine .lst ?_ (fun z => n (hB _ z)) (RpL.mono hk ht hf hB t)
    rcases hk _ _ h with z | ⟨_, z⟩ | ⟨_, _, z⟩ | z
    · exact absurd z n
    · cases z
    · cases z
    · exact z
  | _, _, .dct h n e t => by
    refine .dct ?_ (fun z => n (hB _ z)) e (RpL.mono hk ht hf hB t)
    rcases h with h | ⟨o, h⟩
    · rcases hk _ _ h with z | ⟨_, z⟩ | ⟨_, _, z⟩ | z
      · exact absurd z n
      · cases z
      · cases z
      · exact .inl z
    · exact .inr ⟨o, hf _ _ _ h⟩
  | _, _, .deck e => .deck e
  | _, _, .obj => .obj
theorem RpL.mono (hk : ∀ a o, H a = some o → A a ∨ (∃ xs, o = .tup xs) ∨ (∃ ob u, o = .frz ob u) ∨ H' a = some o) (ht : ∀ a xs, H a = some (.tup xs) → H' a = some (.tup xs)) (hf : ∀ a ob u, H a = some (.frz ob u) → H' a = some (.frz ob u)) (hB : ∀ a, B a → A a) :
    ∀ {vs : List V} {ds : List D}, RpL K dk H A vs ds → RpL K dk H' B vs ds
  | _, _, .nil => .nil
  | _, _, .cons r t => .cons (Rp.mono hk ht hf hB r) (RpL.mono hk ht hf hB t)
end
end

mutual
/-- no list, dict or thing within -/
def lf : D → Bool
  | .non | .bl _ | .int _ | .str _ | .deck => true
  | .tup l => lfL l
  | .lst _ => false
  | .dct _ _ => false
  | .obj _ => true
def lfL : List D → Bool
  | [] => true
  | d :: l => lf d && lfL l
end
section
variable {K : PySem.W.Frag} {dk : DkT} {H H' : Hp} {A B : Addr → Prop}
mutual
theorem Rp.lf : ∀ {v : V} {d : D}, DL.lf d = true → Rp K dk H A v d → Rp K dk H B v d
  | _, _, _, .non => .non
  | _, _, _, .bl b => .bl b
  | _, _, _, .int i => .int i
  | _, _, _, .str s => .str s
  | _, _, e, .tup h t p => .tup h (RpL.lf (by simpa [DL.lf] using e) t) p
  | _, _, e, .lst _ _ _ => by simp [DL.lf] at e
  | _, _, e, .dct _ _ _ _ => by simp [DL.lf] at e
  | _, _, _, .deck e => .deck e
  | _, _, _, .obj => .obj
theorem RpL.lf : ∀ {vs : List V} {ds : List D}, lfL ds = true → RpL K dk H A vs ds → RpL K dk H B vs ds
  | _, _, _, .nil => .nil
  | _, _, e, .cons r t => by
    simp only [lfL, Bool.and_eq_true] at e
    exact .cons (Rp.lf e.1 r) (RpL.lf e.2 t)
end
end

/-- between two heaps: all but the deck stands -/
def Ext (dk : DkT) (H H' : Hp) : Prop := ∀ a o, H a = some o → IsDk dk a ∨ H' a = some o
/-- the deck: a list of the script, a place, a rest, a count; n draws are left -/
def most : Nat := 1000000000
def Deck (p s : Addr) (n : Nat) (H : Hp) : Prop :=
  ∃ (ns : List Int) (i l j : Int), H p = some (.lst [.ref s, .int i, .int l, .int j]) ∧ s ≠ p ∧ H s = some (.lst (ns.map V.int)) ∧ ns.length ≤ 63 ∧ 0 ≤ i ∧ 0 ≤ l ∧ 0 ≤ j ∧ j + n ≤ most
def VI (K : PySem.W.Frag) (dk : DkT) (n : Nat) (H : Hp) : Prop := ∀ p s, dk = some (p, s) → Deck p s n H
theorem VI.lst {K : PySem.W.Frag} {dk : DkT} {n : Nat} {H : Hp} {a : Addr} (vi : VI K dk n H) (h : IsDk dk a) : ∃ l, H a = some (.lst l) := by
  obtain ⟨p, s, e, h⟩ := h
  obtain ⟨ns, i, l, j, h1, _, h2, _⟩ := vi p s e
  rcases h with rfl | rfl
  · exact ⟨_, h1⟩
  · exact ⟨_, h2⟩
/-- new objects and others may change -/
theorem VI.on {K : PySem.W.Frag} {dk : DkT} {n : Nat} {H H' : Hp} (vi : VI K dk n H) (h : ∀ a, IsDk dk a → H' a = H a) : VI K dk n H' := by
  intro p s e
  obtain ⟨ns, i, l, j, h1, h2, h3, h4⟩ := vi p s e
  exact ⟨ns, i, l, j, (h p ⟨p, s, e, .inl rfl⟩).trans h1, h2, (h s ⟨p, s, e, .inr rfl⟩).trans h3, h4⟩

section
variable {K : PySem.W.Frag} {dk : DkT} {H H1 H' : Hp} {A B : Addr → Prop} {n : Nat}
theorem Ext.refl : Ext dk H H := fun _ _ h => .inr h
theorem Ext.trans (a : Ext dk H H1) (b : Ext dk H1 H') : Ext dk H H' := fun x o h => by
  rcases a x o h with z | z
  · exact .inl z
  · exact b x o z
theorem Ext.new {p : Addr} {o : HO} (h : H p = none) : Ext dk H (upd H p o) := fun a u e => .inr (by rw [upd_ne (ne_of_none e h)]; exact e)
theorem Ext.same (h : Same H H') : Ext dk H H' := fun a o e => .inr (h a o e)
/-- what stands for data stands on -/
theorem Rp.ext {v : V} {d : D} (vi : VI K dk n H) (hA : ∀ a, IsDk dk a → A a) (e : Ext dk H H') (r : Rp K dk H A v d) : Rp K dk H' A v d := by
  have nd : ∀ a o, H a = some o → (∀ l, o ≠ .lst l) → H' a = some o := fun a o h q => by
    rcases e a o h with z | z
    · obtain ⟨l, h'⟩ := vi.lst z
      rw [h] at h'
      exact absurd (Option.some.inj h') (q _)
    · exact z
  refine r.mono (fun a o h => ?_) (fun a xs h => nd a _ h fun _ z => by cases z) (fun a ob u h => nd a _ h fun _ z => by cases z) fun _ z => z
  rcases e a o h with z | z
  · exact .inl (hA a z)
  · exact .inr (.inr (.inr z))
theorem RpL.ext {vs : List V} {ds : List D} (vi : VI K dk n H) (hA : ∀ a, IsDk dk a → A a) (e : Ext dk H H') (r : RpL K dk H A vs ds) : RpL K dk H' A vs ds := by
  induction vs generalizing ds with
  | nil => cases r; exact .nil
  | cons v vs ih =>
    cases r with
    | cons a b => exact .cons (a.ext vi hA e) (ih b)
theorem Ext.tup {a : Addr} {xs : List V} (vi : VI K dk n H) (e : Ext dk H H') (h : SqT K H a xs) : SqT K H' a xs := by
  have nd : ∀ a o, H a = some o → (∀ l, o ≠ .lst l) → H' a = some o := fun a o h q => by
    rcases e a o h with z | z
    · obtain ⟨l, h'⟩ := vi.lst z
      rw [h] at h'
      exact absurd (Option.some.inj h') (q _)
    · exact z
  rcases h with (h | ⟨o, h⟩) | h
  · exact .inl (.inl (nd _ _ h fun _ z => by cases z))
  · exact .inl (.inr ⟨o, nd _ _ h fun _ z => by cases z⟩)
  · exact .inr h
theorem Ext.fresh {p : Addr} {n' : Nat} (vi' : VI K dk n' H') (e : Ext dk H H') (h : H' p = none) : H p = none := by
  cases q : H p with
  | none => rfl
  | some o =>
    rcases e p o q with z | z
    · obtain ⟨_, h'⟩ := vi'.lst z
      rw [h] at h'; cases h'
    · rw [h] at z; cases z
end
end DL

/-! part two: what a piece of text computes, upon plain data; how that stands to the readings -/
namespace DL
open PySem PySem.Spec L2

/-- a computation: how many draws are left, what is wanted of a value, of an error -/
abbrev Mo (α : Type) := Nat → (α → Nat → Prop) → (XD → Nat → Prop) → Prop
def ret {α : Type} (a : α) : Mo α := fun n Q _ => Q a n
def bnd {α β : Type} (m : Mo α) (f : α → Mo β) : Mo β := fun n Q X => m n (fun a n' => f a n' Q X) X
def stop {α : Type} : Mo α := fun _ _ _ => False
def need (p : Prop) {α : Type} (m : Mo α) : Mo α := fun n Q X => p ∧ m n Q X
def throwD {α : Type} (x : XD) : Mo α := fun n _ X => X x n
/-- a number below m, any -/
def drawD (m : Int) : Mo D := fun n Q _ => 0 < n ∧ 0 < m ∧ m < 1073741824 ∧ ∀ r : Int, 0 ≤ r → r < m → Q (.int r) (n - 1)

/-- what a slot holds: nothing that is known; a value; a list or dict of the def's own -/
inductive EV where
  | no
  | val (d : D)
  | own (d : D)
abbrev Env' := List EV
abbrev DE := Env' → Mo D

structure Cn where
  K : PySem.W.Frag
  mg : Str → Option Value
  dk : DkT
  H0 : Hp
  O : Addr → Prop
  W : WX
  Xq : Env' → XD → Nat → Prop
  gh : List (V × D)
  hid : List Addr

/-- addresses that values avoid -/
def AV (c : Cn) (own : Nat → Option Addr) (a : Addr) : Prop := c.O a ∨ IsDk c.dk a ∨ (∃ i, own i = some a) ∨ a ∈ c.hid
/-- an own list or dict -/
def Ow (K : PySem.W.Frag) (dk : DkT) (H : Hp) (A : Addr → Prop) (p : Addr) (d : D) : Prop :=
  match d with
  | .lst ds => ∃ xs, H p = some (.lst xs) ∧ RpL K dk H A xs ds
  | .dct ks ds => ∃ kvs, H p = some (.dK kvs) ∧ kvs.map (·.1) = ks ∧ RpL K dk H A (kvs.map (·.2)) ds
  | _ => False
/-- as a value stands, or an own one -/
def Rw (K : PySem.W.Frag) (dk : DkT) (H : Hp) (A : Addr → Prop) (v : V) (d : D) : Prop :=
  match d with
  | .lst ds => ∃ p xs, v = .ref p ∧ ¬ IsDk dk p ∧ H p = some (.lst xs) ∧ RpL K dk H A xs ds
  | .dct ks ds => ∃ p kvs, v = .ref p ∧ ¬ IsDk dk p ∧ Rd H p (.dK kvs) ∧ kvs.map (·.1) = ks ∧ RpL K dk H A (kvs.map (·.2)) ds
  | d => Rp K dk H A v d

structure ER (c : Cn) (own : Nat → Option Addr) (env : Env') (n : Nat) (σ : St) (H : Hp) : Prop where
  vi : VI c.K c.dk n H
  ext : Ext c.dk c.H0 H
  vi0 : ∃ n0, VI c.K c.dk n0 c.H0
  lo : ∀ a, c.O a → c.H0 a ≠ none
  val : ∀ (i : Nat) (d : D), env[i]? = some (EV.val d) → ∃ v, σ[i]? = some (some v) ∧ Rp c.K c.dk H (AV c own) v d
  ow : ∀ (i : Nat) (d : D), env[i]? = some (EV.own d) → ∃ p, own i = some p ∧ σ[i]? = some (some (V.ref p)) ∧ Ow c.K c.dk H (AV c own) p d
  onl : ∀ (i : Nat) (p : Addr), own i = some p → (∃ d, env[i]? = some (EV.own d)) ∧ c.H0 p = none ∧ ¬ IsDk c.dk p ∧ H p ≠ none
  inj : ∀ i j p, own i = some p → own j = some p → i = j
  len : σ.length = env.length
  gh : ∀ p ∈ c.gh, Rp c.K c.dk H (AV c own) p.1 p.2
  hid : ∀ a ∈ c.hid, c.H0 a = none ∧ ¬ IsDk c.dk a ∧ H a ≠ none ∧ ∀ i, own i ≠ some a

section
variable {c : Cn} {own : Nat → Option Addr} {env : Env'} {n n' : Nat} {σ : St} {H H' : Hp} {A B : Addr → Prop} {K : PySem.W.Frag} {dk : DkT} {p : Addr} {d : D} {v : V}
theorem AV.deck {a : Addr} (h : IsDk c.dk a) : AV c own a := .inr (.inl h)
theorem Rp.rw (vd : ∀ a, IsDk dk a → A a) (r : Rp K dk H A v d) : Rw K dk H A v d := by
  cases r with
  | lst h nn t => exact ⟨_, _, rfl, fun e => nn (vd _ e), h, t⟩
  | dct h nn e t => exact ⟨_, _, rfl, fun z => nn (vd _ z), h, e, t⟩
  | non => exact .non
  | bl b => exact .bl b
  | int i => exact .int i
  | str s => exact .str s
  | tup h t p => exact .tup h t p
  | deck e => exact .deck e
  | obj => exact .obj
theorem Ow.rw (h : Ow K dk H A p d) (nd : ¬ IsDk dk p) : Rw K dk H A (.ref p) d := by
  cases d with
  | lst ds => obtain ⟨xs, h1, h2⟩ := h; exact ⟨p, xs, rfl, nd, h1, h2⟩
  | dct ks ds => obtain ⟨kvs, h1, h2, h3⟩ := h; exact ⟨p, kvs, rfl, nd, Rd.of h1, h2, h3⟩
  | _ => exact h.elim
theorem Ow.rp (h : Ow K dk H A p d) (nA : ¬ A p) : Rp K dk H A (.ref p) d := by
  cases d with
  | lst ds => obtain ⟨xs, h1, h2⟩ := h; exact .lst h1 nA h2
  | dct ks ds => obtain ⟨kvs, h1, h2, h3⟩ := h; exact .dct (Rd.of h1) nA h2 h3
  | _ => exact h.elim
theorem Ow.some_ (h : Ow K dk H A p d) : ∃ o, H p = some o ∧ (∀ l, o ≠ .tup l) ∧ (∀ ob u, o ≠ .frz ob u) := by
  cases d with
  | lst ds => obtain ⟨xs, h1, h2⟩ := h; exact ⟨_, h1, fun _ z => (by cases z), fun _ _ z => (by cases z)⟩
  | dct ks ds => obtain ⟨kvs, h1, h2, h3⟩ := h; exact ⟨_, h1, fun _ z => (by cases z), fun _ _ z => (by cases z)⟩
  | _ => exact h.elim
theorem Ow.ext (vi : VI K dk n H) (hA : ∀ a, IsDk dk a → A a) (e : Ext dk H H') (nd : ¬ IsDk dk p) (h : Ow K dk H A p d) : Ow K dk H' A p d := by
  cases d with
  | lst ds =>
    obtain ⟨xs, h1, h2⟩ := h
    exact ⟨xs, (e p _ h1).resolve_left nd, h2.ext vi hA e⟩
  | dct ks ds =>
    obtain ⟨kvs, h1, h2, h3⟩ := h
    exact ⟨kvs, (e p _ h1).resolve_left nd, h2, h3.ext vi hA e⟩
  | _ => exact h.elim
theorem RpL.less {vs : List V} {ds : List D} (hB : ∀ a, B a → A a) (r : RpL K dk H A vs ds) : RpL K dk H B vs ds := RpL.mono (fun _ _ z => .inr (.inr (.inr z))) (fun _ _ z => z) (fun _ _ _ z => z) hB r
theorem Rp.less (hB : ∀ a, B a → A a) (r : Rp K dk H A v d) : Rp K dk H B v d := Rp.mono (fun _ _ z => .inr (.inr (.inr z))) (fun _ _ z => z) (fun _ _ _ z => z) hB r
theorem Ow.less (hB : ∀ a, B a → A a) (h : Ow K dk H A p d) : Ow K dk H B p d := by
  cases d with
  | lst ds => obtain ⟨xs, h1, h2⟩ := h; exact ⟨xs, h1, h2.less hB⟩
  | dct ks ds => obtain ⟨kvs, h1, h2, h3⟩ := h; exact ⟨kvs, h1, h2, h3.less hB⟩
  | _ => exact h.elim
mutual
/-- an address that is not tracked is avoided -/
theorem Rp.more (hp : H p = none) : ∀ {v : V} {d : D}, Rp K dk H A v d → Rp K dk H (fun a => A a ∨ a = p) v d
  | _, _, .non => .non
  | _, _, .bl b => .bl b
  | _, _, .int i => .int i
  | _, _, .str h => .str h
  | _, _, .tup h t p => .tup h (RpL.more hp t) p
  | _, _, .lst h n t => .lst h (fun z => z.elim n fun z => by rw [z, hp] at h; cases h) (RpL.more hp t)
  | _, _, .dct h n e t => .dct h (fun z => z.elim n fun z => by
      subst z
      rcases h with h | ⟨o, h⟩
      · rw [hp] at h; cases h
      · rw [hp] at h; cases h) e (RpL.more hp t)
  | _, _, .deck e => .deck e
  | _, _, .obj => .obj
theorem RpL.more (hp : H p = none) : ∀ {vs : List V} {ds : List D}, RpL K dk H A vs ds → RpL K dk H (fun a => A a ∨ a = p) vs ds
  | _, _, .nil => .nil
  | _, _, .cons r t => .cons (Rp.more hp r) (RpL.more hp t)
end
theorem SqL.ext' {xs : List V} {dk : DkT} (e : Ext dk H H') (nd : ¬ IsDk dk p) (h : SqL K H p xs) : SqL K H' p xs := by
  rcases h with (h | ⟨o, h⟩) | h
  · exact .inl (.inl ((e p _ h).resolve_left nd))
  · exact .inl (.inr ⟨o, (e p _ h).resolve_left nd⟩)
  · exact .inr h
theorem Rd.ext' {u : HO} {dk : DkT} (e : Ext dk H H') (nd : ¬ IsDk dk p) (h : Rd H p u) : Rd H' p u := by
  rcases h with h | ⟨o, h⟩
  · exact .inl ((e p _ h).resolve_left nd)
  · exact .inr ⟨o, (e p _ h).resolve_left nd⟩
theorem Rw.ext (vi : VI K dk n H) (hA : ∀ a, IsDk dk a → A a) (e : Ext dk H H') (h : Rw K dk H A v d) : Rw K dk H' A v d := by
  cases d with
  | lst ds => obtain ⟨p, xs, e0, nd, h1, h2⟩ := h; exact ⟨p, xs, e0, nd, (e p _ h1).resolve_left nd, h2.ext vi hA e⟩
  | dct ks ds => obtain ⟨p, kvs, e0, nd, h1, h2, h3⟩ := h; exact ⟨p, kvs, e0, nd, Rd.ext' e nd h1, h2, h3.ext vi hA e⟩
  | non => exact Rp.ext vi hA e h
  | bl _ => exact Rp.ext vi hA e h
  | int _ => exact Rp.ext vi hA e h
  | str _ => exact Rp.ext vi hA e h
  | tup _ => exact Rp.ext vi hA e h
  | deck => exact Rp.ext vi hA e h
  | obj _ => exact Rp.ext vi hA e h

theorem Ext.keeps {dk : DkT} {a : Addr} (e : Ext dk H H') (nd : ¬ IsDk dk a) (h : H a ≠ none) : H' a ≠ none := by
  intro z
  cases q : H a with
  | none => exact h q
  | some o =>
    rcases e a o q with r | r
    · exact nd r
    · rw [z] at r; cases r
theorem ER.go (R : ER c own env n σ H) (e : Ext c.dk H H') (vi : VI c.K c.dk n' H') : ER c own env n' σ H' where
  vi := vi
  ext := R.ext.trans e
  vi0 := R.vi0
  lo := R.lo
  val := fun i d h => by
    obtain ⟨v, h1, h2⟩ := R.val i d h
    exact ⟨v, h1, h2.ext R.vi (fun a z => AV.deck z) e⟩
  ow := fun i d h => by
    obtain ⟨p, h1, h2, h3⟩ := R.ow i d h
    exact ⟨p, h1, h2, h3.ext R.vi (fun a z => AV.deck z) e (R.onl i p h1).2.2.1⟩
  onl := fun i p h => by
    obtain ⟨h1, h2, h3, h4⟩ := R.onl i p h
    exact ⟨h1, h2, h3, e.keeps h3 h4⟩
  inj := R.inj
  len := R.len
  gh := fun p h => (R.gh p h).ext R.vi (fun a z => AV.deck z) e
  hid := fun a h => ⟨(R.hid a h).1, (R.hid a h).2.1, e.keeps (R.hid a h).2.1 (R.hid a h).2.2.1, (R.hid a h).2.2.2⟩
/-- a fresh address is avoided by none -/
theorem ER.notAV (R : ER c own env n σ H) (h : H p = none) : ¬ AV c own p := by
  rintro (z | z | ⟨i, z⟩ | z)
  · cases q : c.H0 p with
    | none => exact R.lo p z q
    | some o =>
      rcases R.ext p o q with r | r
      · obtain ⟨_, h'⟩ := R.vi.lst r
        rw [h] at h'; cases h'
      · rw [h] at r; cases r
  · obtain ⟨_, h'⟩ := R.vi.lst z
    rw [h] at h'; cases h'
  · exact (R.onl i p z).2.2.2 h
  · exact (R.hid p z).2.2.1 h
end

/-! ### a value's ways to stand: strong, weak, new -/
inductive Md where
  | s | w | f
def Rm (c : Cn) (A : Addr → Prop) (H H' : Hp) (m : Md) (v : V) (d : D) : Prop :=
  match m with
  | .s => Rp c.K c.dk H' A v d
  | .w => Rw c.K c.dk H' A v d
  | .f => ∃ p, v = .ref p ∧ H p = none ∧ ¬ IsDk c.dk p ∧ ¬ A p ∧ Ow c.K c.dk H' (fun a => A a ∨ a = p) p d
/-- from here on: the computation m, and what is wanted of its value -/
def Go (c : Cn) (own : Nat → Option Addr) (env : Env') (H : Hp) (n : Nat) (md : Md) (m : Mo D) (Q : VK) : Prop :=
  ∃ Qd, m n Qd (c.Xq env) ∧ ∀ d n' v H', Qd d n' → Ext c.dk H H' → VI c.K c.dk n' H' → Rm c (AV c own) H H' md v d → Q v H'
/-- the reading of an expression that computes t -/
def tX (c : Cn) (md : Md) (t : DE) : TE := fun σ H Q => ∃ own env n, ER c own env n σ H ∧ Go c own env H n md (t env) Q
section
variable {c : Cn} {own : Nat → Option Addr} {env : Env'} {n n' : Nat} {σ : St} {H H1 H' : Hp} {A : Addr → Prop} {md : Md} {m : Mo D} {Q Q' : VK} {v : V} {d : D} {t : DE}
theorem Rm.back (vi1 : VI c.K c.dk n' H1) (e : Ext c.dk H H1) (h : Rm c A H1 H' md v d) : Rm c A H H' md v d := by
  cases md with
  | s => exact h
  | w => exact h
  | f => obtain ⟨p, e1, e2, e3⟩ := h; exact ⟨p, e1, e.fresh vi1 e2, e3⟩
theorem Rm.on (vi : VI c.K c.dk n H1) (hA : ∀ a, IsDk c.dk a → A a) (e : Ext c.dk H1 H') (h : Rm c A H H1 md v d) : Rm c A H H' md v d := by
  cases md with
  | s => exact Rp.ext vi hA e h
  | w => exact Rw.ext vi hA e h
  | f => obtain ⟨p, e1, e2, e3, e4, e5⟩ := h; exact ⟨p, e1, e2, e3, e4, e5.ext vi (fun a z => .inl (hA a z)) e e3⟩
theorem Rm.weak (hA : ∀ a, IsDk c.dk a → A a) (h : Rm c A H H' md v d) : Rm c A H H' .w v d := by
  cases md with
  | s => exact Rp.rw hA h
  | w => exact h
  | f => obtain ⟨p, e1, e2, e3, e4, e5⟩ := h; subst e1; exact (e5.less fun _ z => .inl z).rw e3
theorem Go.back (R : ER c own env n σ H) (e : Ext c.dk H H1) (vi1 : VI c.K c.dk n' H1) (h : Go c own env H n md m Q) {m' : Mo D} (hm : ∀ Qd, m n Qd (c.Xq env) → m' n' Qd (c.Xq env)) : Go c own env H1 n' md m' Q := by
  obtain ⟨Qd, h1, h2⟩ := h
  exact ⟨Qd, hm Qd h1, fun d n2 v H' q e' vi' r => h2 d n2 v H' q (e.trans e') vi' (r.back vi1 e)⟩
theorem PE.imp {X : Cx} {e : Expr} {t u : TE} (h : PE X e t) (hi : ∀ σ H Q, u σ H Q → t σ H Q) : PE X e u := ⟨fun pins s σ H Q I q => h.run pins s σ H Q I (hi σ H Q q)⟩
theorem PT.imp {X : Cx} {e : Expr} {t u : TT} (h : PT X e t) (hi : ∀ σ H Q, u σ H Q → t σ H Q) : PT X e u := ⟨fun pins s σ H Q I q => h.run pins s σ H Q I (hi σ H Q q)⟩
theorem PA.imp {X : Cx} {e : List Expr} {t u : TA} (h : PA X e t) (hi : ∀ σ H Q, u σ H Q → t σ H Q) : PA X e u := ⟨fun pos pins s σ H Q I q => h.run pos pins s σ H Q I (hi σ H Q q)⟩
theorem PS.imp {X : Cx} {st : Stmt} {t u : TS} (h : PS X st t) (hi : ∀ D σ H, u D σ H → t D σ H) : PS X st u := ⟨fun pins s σ H D I q => h.run pins s σ H D I (hi D σ H q)⟩
theorem PSs.imp {X : Cx} {st : List Stmt} {t u : TS} (h : PSs X st t) (hi : ∀ D σ H, u D σ H → t D σ H) : PSs X st u := ⟨fun pins s σ H D I q => h.run pins s σ H D I (hi D σ H q)⟩
/-- new is strong, strong is weak -/
theorem tX.ofF (h : tX c .s t σ H Q) : tX c .f t σ H Q := by
  obtain ⟨own, env, n, R, Qd, h1, h2⟩ := h
  refine ⟨own, env, n, R, Qd, h1, fun d n' v H' q e vi r => h2 d n' v H' q e vi ?_⟩
  obtain ⟨p, e1, e2, e3, e4, e5⟩ := r
  subst e1
  exact (e5.less fun _ z => .inl z).rp e4
theorem tX.ofS (h : tX c .w t σ H Q) : tX c .s t σ H Q := by
  obtain ⟨own, env, n, R, Qd, h1, h2⟩ := h
  exact ⟨own, env, n, R, Qd, h1, fun d n' v H' q e vi r => h2 d n' v H' q e vi (Rp.rw (fun _ z => AV.deck z) r)⟩
theorem pS_F {X : Cx} {e : Expr} (h : PE X e (tX c .f t)) : PE X e (tX c .s t) := PE.imp h fun _ _ _ q => q.ofF
theorem pW_S {X : Cx} {e : Expr} (h : PE X e (tX c .s t)) : PE X e (tX c .w t) := PE.imp h fun _ _ _ q => q.ofS
theorem pW_F {X : Cx} {e : Expr} (h : PE X e (tX c .f t)) : PE X e (tX c .w t) := pW_S (pS_F h)
end

/-! ### one, two operands -/
def un1 (ta : DE) (f : D → Mo D) : DE := fun env => bnd (ta env) f
def bin2 (ta tb : DE) (f : D → D → Mo D) : DE := fun env => bnd (ta env) fun a => bnd (tb env) fun b => f a b
/-- an operation upon values does what f does upon data -/
def Op1 (c : Cn) (ma md : Md) (r : V → Hp → VK → Prop) (f : D → Mo D) : Prop :=
  ∀ own env n σ H0 H x a Q, ER c own env n σ H → Rm c (AV c own) H0 H ma x a → Go c own env H n md (f a) Q → r x H Q
def Op2 (c : Cn) (ma mb md : Md) (r : R2) (f : D → D → Mo D) : Prop :=
  ∀ own env n σ H0 H1 H x y a b Q, ER c own env n σ H → Rm c (AV c own) H0 H ma x a → Rm c (AV c own) H1 H mb y b → Go c own env H n md (f a b) Q → r x y H Q
section
variable {c : Cn} {ma mb md : Md} {ta tb : DE} {r : V → Hp → VK → Prop} {r2 : R2} {f : D → Mo D} {g : D → D → Mo D} {σ : St} {H : Hp} {Q : VK}
theorem op1_tX (h : Op1 c ma md r f) (q : tX c md (un1 ta f) σ H Q) : tX c ma ta σ H fun x H1 => r x H1 Q := by
  obtain ⟨own, env, n, R, Qd, h1, h2⟩ := q
  refine ⟨own, env, n, R, _, h1, fun d n' v H' q e vi rm => ?_⟩
  refine h own env n' σ H H' v d Q (R.go e vi) rm ⟨Qd, q, fun d2 n2 v2 H2 q2 e2 vi2 r2 => h2 d2 n2 v2 H2 q2 (e.trans e2) vi2 (r2.back vi e)⟩
theorem op2_tX (h : Op2 c ma mb md r2 g) (q : tX c md (bin2 ta tb g) σ H Q) : tX c ma ta σ H fun x H1 => tX c mb tb σ H1 fun y H2 => r2 x y H2 Q := by
  obtain ⟨own, env, n, R, Qd, h1, h2⟩ := q
  refine ⟨own, env, n, R, _, h1, fun a n1 x H1 q e vi ra => ?_⟩
  refine ⟨own, env, n1, R.go e vi, _, q, fun b n2 y H2 q2 e2 vi2 rb => ?_⟩
  refine h own env n2 σ H H1 H2 x y a b Q ((R.go e vi).go e2 vi2) (ra.on vi (fun _ z => AV.deck z) e2) rb ⟨Qd, q2, fun d3 n3 v3 H3 q3 e3 vi3 r3 => ?_⟩
  exact h2 d3 n3 v3 H3 q3 ((e.trans e2).trans e3) vi3 (Rm.back vi2 (e.trans e2) r3)
end
end DL

/-! part three: data compared, shown -/
namespace DL
open PySem PySem.Spec L2

mutual
def py : D → PyData
  | .non => .none
  | .bl b => .bool b
  | .int i => .int i
  | .str s => .str s
  | .tup l => .tuple (pyL l)
  | .lst l => .list (pyL l)
  | .dct _ _ => .none
  | .deck => .none
  | .obj _ => .none
def pyL : List D → List PyData
  | [] => []
  | d :: l => py d :: pyL l
end
theorem pyL_map : ∀ l : List D, pyL l = l.map py
  | [] => rfl
  | d :: l => by simp only [pyL, List.map_cons, pyL_map l]
mutual
/-- data that may be compared and shown -/
def okD : D → Bool
  | .non | .bl _ | .int _ | .str _ => true
  | .tup l | .lst l => okL l
  | .dct _ _ | .deck | .obj _ => false
def okL : List D → Bool
  | [] => true
  | d :: l => okD d && okL l
end
theorem okL_all : ∀ l : List D, okL l = l.all okD
  | [] => rfl
  | d :: l => by simp only [okL, List.all_cons, okL_all l]
/-- .. nested few levels deep -/
def cmpOk (d : D) : Bool := okD d && decide ((py d).depth ≤ 60)
theorem cmpOk_ok {d : D} (h : cmpOk d = true) : okD d = true := (Bool.and_eq_true_iff.mp h).1
theorem cmpOk_dep {d : D} (h : cmpOk d = true) : (py d).depth ≤ 60 := of_decide_eq_true (Bool.and_eq_true_iff.mp h).2

section
variable {X : Cx} {pins : List (Addr × Obj)} {σ : St} {H H0 : Hp} {s : Shared} {dk : DkT} {A : Addr → Prop}
mutual
theorem Rp.dp {K : PySem.W.Frag} : ∀ {d : D} {v : V}, okD d = true → Rp K dk H A v d → Dp K H v (py d) ∧ (py d).canLay0 = true
  | _, _, _, .non => ⟨.non, rfl⟩
  | _, _, _, .bl b => ⟨.bl b, rfl⟩
  | _, _, _, .int i => ⟨.int i, rfl⟩
  | _, _, _, .str h => ⟨.str _, by simpa [py, PyData.canLay0] using h⟩
  | .tup l, _, e, .tup h t _ => by
    obtain ⟨h1, h2⟩ := RpL.dp (by simpa [okD] using e) t
    exact ⟨.tup h h1, by simpa [py, PyData.canLay0] using h2⟩
  | .lst l, _, e, .lst h _ t => by
    obtain ⟨h1, h2⟩ := RpL.dp (by simpa [okD] using e) t
    exact ⟨.lst (SqL.of h) h1, by simpa [py, PyData.canLay0] using h2⟩
  | _, _, e, .dct _ _ _ _ => by simp [okD] at e
  | _, _, e, .deck _ => by simp [okD] at e
  | _, _, e, .obj => by simp [okD] at e
theorem RpL.dp {K : PySem.W.Frag} : ∀ {ds : List D} {vs : List V}, okL ds = true → RpL K dk H A vs ds → DpAll K H vs (pyL ds) ∧ PyData.canLayAll0 (pyL ds) = true
  | _, _, _, .nil => ⟨.nil, rfl⟩
  | d :: ds, _, e, .cons r t => by
    simp only [okL, Bool.and_eq_true] at e
    obtain ⟨h1, h2⟩ := Rp.dp e.1 r
    obtain ⟨h3, h4⟩ := RpL.dp e.2 t
    exact ⟨.cons h1 h3, by simp [pyL, PyData.canLayAll0, h2, h4]⟩
end
theorem Rw.dp {K : PySem.W.Frag} {d : D} {v : V} (h : okD d = true) (r : Rw K dk H A v d) : Dp K H v (py d) ∧ (py d).canLay0 = true := by
  cases d with
  | lst ds =>
    obtain ⟨p, xs, e, nd, h1, h2⟩ := r
    subst e
    obtain ⟨h3, h4⟩ := RpL.dp (by simpa [okD] using h) h2
    exact ⟨.lst (SqL.of h1) h3, by simpa [py, PyData.canLay0] using h4⟩
  | dct ks ds => simp [okD] at h
  | non => exact Rp.dp h r
  | bl _ => exact Rp.dp h r
  | int _ => exact Rp.dp h r
  | str _ => exact Rp.dp h r
  | tup _ => exact Rp.dp h r
  | deck => exact Rp.dp h r
  | obj _ => exact Rp.dp h r
theorem shaped_of {d : D} (h : cmpOk d = true) (c : (py d).canLay0 = true) : SeqAt.shaped (py d) = true := by
  unfold SeqAt.shaped
  rw [c, Bool.true_and]
  have := cmpOk_dep h
  exact decide_eq_true (by omega)
end

/-! ### ==, in -/
/-- both are no list, tuple, dict -/
def flat : D → Bool
  | .non | .bl _ | .int _ | .str _ => true
  | _ => false
def eqB (a b : D) : Bool := PyData.eqv (py a) (py b)
def eqD (a b : D) : Mo D := need (cmpOk a = true ∧ cmpOk b = true) (ret (.bl (eqB a b)))
def neD (a b : D) : Mo D := need (cmpOk a = true ∧ cmpOk b = true) (ret (.bl (!eqB a b)))

section
variable {c : Cn} {own : Nat → Option Addr} {env : Env'} {n : Nat} {σ : St} {H H0 : Hp} {m : Md} {v : V} {d : D}
/-- every way to stand, weakly -/
theorem ER.weak (R : ER c own env n σ H) (h : Rm c (AV c own) H0 H m v d) : Rw c.K c.dk H (AV c own) v d := h.weak fun _ z => AV.deck z
/-- the end of an operation that changes nothing -/
theorem Go.done {md : Md} {Q : VK} {b : D} (R : ER c own env n σ H) (g : Go c own env H n md (ret b) Q) (h : Rm c (AV c own) H H md v b) : Q v H := by
  obtain ⟨Qd, h1, h2⟩ := g
  exact h2 b n v H h1 Ext.refl R.vi h
theorem Go.need' {md : Md} {Q : VK} {p : Prop} {m : Mo D} (g : Go c own env H n md (need p m) Q) : p ∧ Go c own env H n md m Q := by
  obtain ⟨Qd, ⟨h0, h1⟩, h2⟩ := g
  exact ⟨h0, Qd, h1, h2⟩
theorem Go.stop' {md : Md} {Q : VK} (g : Go c own env H n md stop Q) : False := by
  obtain ⟨Qd, h1, h2⟩ := g
  exact h1
theorem VI.new {K : PySem.W.Frag} {dk : DkT} {p : Addr} {o : HO} (vi : VI K dk n H) (hp : H p = none) : VI K dk n (upd H p o) := vi.on fun a h => by
  obtain ⟨l, e⟩ := vi.lst h
  exact upd_ne (ne_of_none e hp)
/-- a new object -/
theorem Go.new {md : Md} {Q : VK} {b : D} {p : Addr} {o : HO} (R : ER c own env n σ H) (g : Go c own env H n md (ret b) Q) (hp : H p = none) (h : Rm c (AV c own) H (upd H p o) md (.ref p) b) : Q (.ref p) (upd H p o) := by
  obtain ⟨Qd, h1, h2⟩ := g
  exact h2 b n _ _ h1 (Ext.new hp) (R.vi.new hp) h
/-- a new tuple, a new list or dict -/
theorem Go.newT {md : Md} {Q : VK} {ds : List D} {xs : List V} (hm : md ≠ .f) (R : ER c own env n σ H) (g : Go c own env H n md (ret (.tup ds)) Q) (h : RpL c.K c.dk H (AV c own) xs ds) : NewT H xs Q := fun p o hp hd => by
  refine Go.new R g hp ?_
  have r : Rp c.K c.dk (upd H p (.frz o (.tup xs))) (AV c own) (.ref p) (.tup ds) := .tup (.inl (.inr ⟨o, upd_same⟩)) (h.ext R.vi (fun _ z => AV.deck z) (Ext.new hp)) fun _ => .inl ⟨o, xs, upd_same, hd⟩
  cases md with
  | s => exact r
  | w => exact r.rw fun _ z => AV.deck z
  | f => exact absurd rfl hm
theorem Go.newO {md : Md} {Q : VK} {b : D} {p : Addr} {o : HO} (R : ER c own env n σ H) (g : Go c own env H n md (ret b) Q) (hp : H p = none) (h : Ow c.K c.dk (upd H p o) (fun a => AV c own a ∨ a = p) p b) : Q (.ref p) (upd H p o) := by
  refine Go.new R g hp ?_
  have nd : ¬ IsDk c.dk p := fun e => by
    obtain ⟨_, h'⟩ := R.vi.lst e
    rw [hp] at h'; cases h'
  cases md with
  | s => exact (h.less fun _ z => .inl z).rp (R.notAV hp)
  | w => exact (h.less fun _ z => .inl z).rw nd
  | f => exact ⟨p, rfl, hp, nd, R.notAV hp, h⟩
theorem Go.newL {md : Md} {Q : VK} {ds : List D} {p : Addr} {xs : List V} (R : ER c own env n σ H) (g : Go c own env H n md (ret (.lst ds)) Q) (hp : H p = none) (h : RpL c.K c.dk H (AV c own) xs ds) : Q (.ref p) (upd H p (.lst xs)) :=
  Go.newO R g hp ⟨xs, upd_same, (h.more hp).ext R.vi (fun _ z => .inl (AV.deck z)) (Ext.new hp)⟩
theorem Go.newD {md : Md} {Q : VK} {ks : List Key} {ds : List D} {p : Addr} {kvs : List (Key × V)} (R : ER c own env n σ H) (g : Go c own env H n md (ret (.dct ks ds)) Q) (hp : H p = none) (hk : kvs.map (·.1) = ks) (h : RpL c.K c.dk H (AV c own) (kvs.map (·.2)) ds) : Q (.ref p) (upd H p (.dK kvs)) :=
  Go.newO R g hp ⟨kvs, upd_same, hk, (h.more hp).ext R.vi (fun _ z => .inl (AV.deck z)) (Ext.new hp)⟩
/-- scalars -/
theorem Rm.bl {A : Addr → Prop} {b : Bool} (hm : m ≠ .f) : Rm c A H0 H m (.bl b) (.bl b) := by
  cases m with
  | s => exact .bl b
  | w => exact .bl b
  | f => exact absurd rfl hm
theorem Rm.int {A : Addr → Prop} {i : Int} (hm : m ≠ .f) : Rm c A H0 H m (.int i) (.int i) := by
  cases m with
  | s => exact .int i
  | w => exact .int i
  | f => exact absurd rfl hm
theorem Rm.str {A : Addr → Prop} {s : Str} (hm : m ≠ .f) (h : PyData.strOk s = true) : Rm c A H0 H m (.str s) (.str s) := by
  cases m with
  | s => exact .str h
  | w => exact Rp.str h
  | f => exact absurd rfl hm
theorem Rm.ofS {A : Addr → Prop} (hm : m ≠ .f) (hA : ∀ a, IsDk c.dk a → A a) (h : Rp c.K c.dk H A v d) : Rm c A H0 H m v d := by
  cases m with
  | s => exact h
  | w => exact h.rw hA
  | f => exact absurd rfl hm
end

section
variable {c : Cn} {ma mb : Md}
theorem o_eq : Op2 c ma mb .s (rEqD c.K) eqD := by
  intro own env n σ H0 H1 H x y a b Q R ra rb g
  obtain ⟨⟨ha, hb⟩, g⟩ := g.need'
  obtain ⟨d1, l1⟩ := Rw.dp (cmpOk_ok ha) (R.weak ra)
  obtain ⟨d2, l2⟩ := Rw.dp (cmpOk_ok hb) (R.weak rb)
  exact ⟨_, _, d1, d2, shaped_of ha l1, shaped_of hb l2, g.done R (Rp.bl _)⟩
theorem o_ne : Op2 c ma mb .s (rNeD c.K) neD := by
  intro own env n σ H0 H1 H x y a b Q R ra rb g
  obtain ⟨⟨ha, hb⟩, g⟩ := g.need'
  obtain ⟨d1, l1⟩ := Rw.dp (cmpOk_ok ha) (R.weak ra)
  obtain ⟨d2, l2⟩ := Rw.dp (cmpOk_ok hb) (R.weak rb)
  exact ⟨_, _, d1, d2, shaped_of ha l1, shaped_of hb l2, g.done R (Rp.bl _)⟩
end
end DL

/-! part four: order -/
namespace DL
open PySem PySem.Spec L2

mutual
/-- may be asked for < -/
def cpr : PyData → PyData → Bool
  | .int _, .int _ => true
  | .str _, .str _ => true
  | .tuple l, .tuple m => cprL l m
  | _, _ => false
def cprL : List PyData → List PyData → Bool
  | [], _ => true
  | _ :: _, [] => true
  | x :: xs, y :: ys => cpr x y && cprL xs ys
end
mutual
def ltP : PyData → PyData → Bool
  | .int i, .int j => decide (i < j)
  | .str x, .str y => decide (x.cps.toList < y.cps.toList)
  | .tuple l, .tuple m => ltPL l m
  | _, _ => false
def ltPL : List PyData → List PyData → Bool
  | [], [] => false
  | [], _ :: _ => true
  | _ :: _, [] => false
  | x :: xs, y :: ys => if PyData.eqv x y = true then ltPL xs ys else ltP x y
end
mutual
def leP : PyData → PyData → Bool
  | .int i, .int j => decide (i ≤ j)
  | .str x, .str y => !decide (y.cps.toList < x.cps.toList)
  | .tuple l, .tuple m => lePL l m
  | _, _ => false
def lePL : List PyData → List PyData → Bool
  | [], _ => true
  | _ :: _, [] => false
  | x :: xs, y :: ys => if PyData.eqv x y = true then lePL xs ys else leP x y
end

theorem cprL_at : ∀ {xs ys : List PyData} {j : Nat} {x y : PyData}, cprL xs ys = true → xs[j]? = some x → ys[j]? = some y → cpr x y = true
  | [], _, _, _, _, _, h, _ => by simp at h
  | _ :: _, [], _, _, _, _, _, h => by simp at h
  | x :: xs, y :: ys, 0, _, _, h, h1, h2 => by
    simp only [cprL, Bool.and_eq_true] at h
    simp at h1 h2
    subst h1 h2
    exact h.1
  | x :: xs, y :: ys, j + 1, _, _, h, h1, h2 => by
    simp only [cprL, Bool.and_eq_true] at h
    exact cprL_at (j := j) h.2 (by simpa using h1) (by simpa using h2)

/-- the item at a place, of two rows -/
def at2 (f : PyData → PyData → Bool) (xs ys : List PyData) (j : Nat) : Bool := f (xs.getD j .none) (ys.getD j .none)
theorem lex_shift (e r e' r' : Nat → Bool) (z : Bool) (h : ∀ j, e (j + 1) = e' j) (h2 : ∀ j, r (j + 1) = r' j) : ∀ (k i : Nat), Ob.lexAt e r z (i + 1) k = Ob.lexAt e' r' z i k
  | 0, _ => rfl
  | k + 1, i => by
    rw [Ob.lexAt_succ, Ob.lexAt_succ, h i, h2 i, lex_shift e r e' r' z h h2 k (i + 1)]
theorem lex_lt : ∀ (xs ys : List PyData), Ob.lexAt (at2 PyData.eqv xs ys) (at2 ltP xs ys) (decide (xs.length < ys.length)) 0 (min xs.length ys.length) = ltPL xs ys
  | [], [] => by simp [Ob.lexAt, ltPL]
  | [], y :: ys => by simp [Ob.lexAt, ltPL]
  | x :: xs, [] => by simp [Ob.lexAt, ltPL]
  | x :: xs, y :: ys => by
    have ih := lex_lt xs ys
    have e : min (x :: xs).length (y :: ys).length = min xs.length ys.length + 1 := by simp only [List.length_cons]; omega
    rw [e, Ob.lexAt_succ, lex_shift _ _ (at2 PyData.eqv xs ys) (at2 ltP xs ys) _ (fun j => by simp [at2]) (fun j => by simp [at2])]
    have e2 : decide ((x :: xs).length < (y :: ys).length) = decide (xs.length < ys.length) := by simp
    rw [e2, ih]
    simp [at2, ltPL]
theorem lex_le : ∀ (xs ys : List PyData), Ob.lexAt (at2 PyData.eqv xs ys) (at2 leP xs ys) (decide (xs.length ≤ ys.length)) 0 (min xs.length ys.length) = lePL xs ys
  | [], [] => by simp [Ob.lexAt, lePL]
  | [], y :: ys => by simp [Ob.lexAt, lePL]
  | x :: xs, [] => by simp [Ob.lexAt, lePL]
  | x :: xs, y :: ys => by
    have ih := lex_le xs ys
    have e : min (x :: xs).length (y :: ys).length = min xs.length ys.length + 1 := by simp only [List.length_cons]; omega
    rw [e, Ob.lexAt_succ, lex_shift _ _ (at2 PyData.eqv xs ys) (at2 leP xs ys) _ (fun j => by simp [at2]) (fun j => by simp [at2])]
    have e2 : decide ((x :: xs).length ≤ (y :: ys).length) = decide (xs.length ≤ ys.length) := by simp
    rw [e2, ih]
    simp [at2, lePL]

theorem readsAll_at {h : Heap} : ∀ {vs : List Value} {ds : List PyData} {as : List Addr} {j : Nat} {v : Value}, ReadsAll h vs ds as → vs[j]? = some v → ∃ d bs, ds[j]? = some d ∧ Reads h v d bs
  | _, _, _, _, _, .nil, h => by simp at h
  | _, _, _, 0, _, .cons r _, h => by
    simp at h
    subst h
    exact ⟨_, _, rfl, r⟩
  | _, _, _, j + 1, _, .cons _ t, h => by
    obtain ⟨d, bs, h1, h2⟩ := readsAll_at (j := j) t (by simpa using h)
    exact ⟨d, bs, by simpa using h1, h2⟩
theorem canAt : ∀ {ds : List PyData} {j : Nat} {d : PyData}, PyData.canLayAll0 ds = true → ds[j]? = some d → d.canLay0 = true ∧ d.depth ≤ PyData.depthAll ds
  | [], _, _, _, h => by simp at h
  | x :: xs, 0, _, h, e => by
    simp at e
    subst e
    simp only [PyData.canLayAll0, Bool.and_eq_true] at h
    exact ⟨h.1, by simp only [PyData.depthAll]; omega⟩
  | x :: xs, j + 1, _, h, e => by
    simp only [PyData.canLayAll0, Bool.and_eq_true] at h
    obtain ⟨h1, h2⟩ := canAt (j := j) h.2 (by simpa using e)
    exact ⟨h1, by simp only [PyData.depthAll]; omega⟩

theorem lt_str_ {prog : Program} {w : World} {A : Around} {E : Value → Shared → Prop} {s : Shared} {x y : Str} {t u : Tok} {Q : Value → Shared → Prop} (h : Q (.bool (decide (x.cps.toList < y.cps.toList))) s) : wpAny (model prog w) A (compareOp .Lt (.str x t) (.str y u)) Q E s := PySem.P.lt_str h
/-- < -/
theorem lt_reads : ∀ (n : Nat) (da db : PyData) (A : Around) (s : Shared) (a b : Value) (as bs : List Addr), da.depth ≤ n → Reads s.heap a da as → Reads s.heap b db bs → da.canLay0 = true → db.canLay0 = true →
    A.units + n + db.depth + 1 < cLine → cpr da db = true → Ob.RcOp .Lt A s a b (ltP da db) := by
  intro n
  induction n with
  | zero =>
    intro da db A s a b as bs hn ra rb ha hb hu hc
    cases ra with
    | int i t =>
      cases rb with
      | int j u => exact Ob.RcOp.lt_int i j t u
      | _ => simp [cpr] at hc
    | str x t =>
      cases rb with
      | str y u => exact fun P w E Q q => lt_str_ q
      | _ => simp [cpr] at hc
    | tuple h1 h2 h3 h4 => simp [PyData.depth] at hn
    | _ => simp [cpr] at hc
  | succ n ih =>
    intro da db A s a b as bs hn ra rb ha hb hu hc
    cases ra with
    | int i t =>
      cases rb with
      | int j u => exact Ob.RcOp.lt_int i j t u
      | _ => simp [cpr] at hc
    | str x t =>
      cases rb with
      | str y u => exact fun P w E Q q => lt_str_ q
      | _ => simp [cpr] at hc
    | @tuple l o vs m xs as' h1 h2 h3 h4 =>
      cases rb with
      | @tuple l2 o2 vs2 m2 ys bs' k1 k2 k3 k4 =>
        have hxs : PyData.canLayAll0 xs = true := by simpa [PyData.canLay0] using ha
        have hys : PyData.canLayAll0 ys = true := by simpa [PyData.canLay0] using hb
        have hc' : cprL xs ys = true := by simpa [cpr] using hc
        simp only [PyData.depth] at hn hu
        have lx := SeqAt.ReadsAll.length _ _ _ h4
        have ly := SeqAt.ReadsAll.length _ _ _ k4
        have R := Ob.RcOp.tuples_lt (A := A) (s := s) (items := vs) (items2 := vs2) (e := at2 PyData.eqv xs ys) (r := at2 ltP xs ys) ⟨o, h1, h2, m, h3⟩ ⟨o2, k1, k2, m2, k3⟩ (by omega) (fun j j1 j2 => ?_) (fun j j1 j2 _ => ?_)
        · have e1 : vs.size = xs.length := by rw [← lx]; simp
          have e2 : vs2.size = ys.length := by rw [← ly]; simp
          rw [e1, e2, lex_lt] at R
          show Ob.RcOp .Lt A s _ _ (ltPL xs ys)
          exact R
        · obtain ⟨d, cs, g1, g2⟩ := readsAll_at (j := j) (v := vs[j]) h4 (by simp [j1])
          obtain ⟨d', cs', g1', g2'⟩ := readsAll_at (j := j) (v := vs2[j]) k4 (by simp [j2])
          obtain ⟨q1, q2⟩ := canAt hxs g1
          obtain ⟨q3, q4⟩ := canAt hys g1'
          have e : at2 PyData.eqv xs ys j = PyData.eqv d d' := by simp [at2, List.getD, g1, g1']
          rw [e]
          refine SeqAt.eqAt_reads d d' A.in1 s _ _ cs cs' g2 g2' q1 q3 ?_
          show A.units + 1 + min d.depth d'.depth < cLine
          have := Nat.min_le_left d.depth d'.depth
          omega
        · obtain ⟨d, cs, g1, g2⟩ := readsAll_at (j := j) (v := vs[j]) h4 (by simp [j1])
          obtain ⟨d', cs', g1', g2'⟩ := readsAll_at (j := j) (v := vs2[j]) k4 (by simp [j2])
          obtain ⟨q1, q2⟩ := canAt hxs g1
          obtain ⟨q3, q4⟩ := canAt hys g1'
          have e : at2 ltP xs ys j = ltP d d' := by simp [at2, List.getD, g1, g1']
          rw [e]
          refine ih d d' A.in1 s _ _ cs cs' (by omega) g2 g2' q1 q3 ?_ (cprL_at hc' g1 g1')
          show A.units + 1 + n + d'.depth + 1 < cLine
          omega
      | _ => simp [cpr] at hc
    | _ => simp [cpr] at hc
theorem le_str_ {prog : Program} {w : World} {A : Around} {E : Value → Shared → Prop} {s : Shared} {x y : Str} {t u : Tok} {Q : Value → Shared → Prop} (h : Q (.bool (!decide (y.cps.toList < x.cps.toList))) s) : wpAny (model prog w) A (compareOp .LtE (.str x t) (.str y u)) Q E s := PySem.P.le_str h
/-- <= -/
theorem le_reads : ∀ (n : Nat) (da db : PyData) (A : Around) (s : Shared) (a b : Value) (as bs : List Addr), da.depth ≤ n → Reads s.heap a da as → Reads s.heap b db bs → da.canLay0 = true → db.canLay0 = true →
    A.units + n + db.depth + 1 < cLine → cpr da db = true → Ob.RcOp .LtE A s a b (leP da db) := by
  intro n
  induction n with
  | zero =>
    intro da db A s a b as bs hn ra rb ha hb hu hc
    cases ra with
    | int i t =>
      cases rb with
      | int j u => exact Ob.RcOp.le_int i j t u
      | _ => simp [cpr] at hc
    | str x t =>
      cases rb with
      | str y u => exact fun P w E Q q => le_str_ q
      | _ => simp [cpr] at hc
    | tuple h1 h2 h3 h4 => simp [PyData.depth] at hn
    | _ => simp [cpr] at hc
  | succ n ih =>
    intro da db A s a b as bs hn ra rb ha hb hu hc
    cases ra with
    | int i t =>
      cases rb with
      | int j u => exact Ob.RcOp.le_int i j t u
      | _ => simp [cpr] at hc
    | str x t =>
      cases rb with
      | str y u => exact fun P w E Q q => le_str_ q
      | _ => simp [cpr] at hc
    | @tuple l o vs m xs as' h1 h2 h3 h4 =>
      cases rb with
      | @tuple l2 o2 vs2 m2 ys bs' k1 k2 k3 k4 =>
        have hxs : PyData.canLayAll0 xs = true := by simpa [PyData.canLay0] using ha
        have hys : PyData.canLayAll0 ys = true := by simpa [PyData.canLay0] using hb
        have hc' : cprL xs ys = true := by simpa [cpr] using hc
        simp only [PyData.depth] at hn hu
        have lx := SeqAt.ReadsAll.length _ _ _ h4
        have ly := SeqAt.ReadsAll.length _ _ _ k4
        have R := Ob.RcOp.tuples_le (A := A) (s := s) (items := vs) (items2 := vs2) (e := at2 PyData.eqv xs ys) (r := at2 leP xs ys) ⟨o, h1, h2, m, h3⟩ ⟨o2, k1, k2, m2, k3⟩ (by omega) (fun j j1 j2 => ?_) (fun j j1 j2 _ => ?_)
        · have e1 : vs.size = xs.length := by rw [← lx]; simp
          have e2 : vs2.size = ys.length := by rw [← ly]; simp
          rw [e1, e2, lex_le] at R
          show Ob.RcOp .LtE A s _ _ (lePL xs ys)
          exact R
        · obtain ⟨d, cs, g1, g2⟩ := readsAll_at (j := j) (v := vs[j]) h4 (by simp [j1])
          obtain ⟨d', cs', g1', g2'⟩ := readsAll_at (j := j) (v := vs2[j]) k4 (by simp [j2])
          obtain ⟨q1, q2⟩ := canAt hxs g1
          obtain ⟨q3, q4⟩ := canAt hys g1'
          have e : at2 PyData.eqv xs ys j = PyData.eqv d d' := by simp [at2, List.getD, g1, g1']
          rw [e]
          refine SeqAt.eqAt_reads d d' A.in1 s _ _ cs cs' g2 g2' q1 q3 ?_
          show A.units + 1 + min d.depth d'.depth < cLine
          have := Nat.min_le_left d.depth d'.depth
          omega
        · obtain ⟨d, cs, g1, g2⟩ := readsAll_at (j := j) (v := vs[j]) h4 (by simp [j1])
          obtain ⟨d', cs', g1', g2'⟩ := readsAll_at (j := j) (v := vs2[j]) k4 (by simp [j2])
          obtain ⟨q1, q2⟩ := canAt hxs g1
          obtain ⟨q3, q4⟩ := canAt hys g1'
          have e : at2 leP xs ys j = leP d d' := by simp [at2, List.getD, g1, g1']
          rw [e]
          refine ih d d' A.in1 s _ _ cs cs' (by omega) g2 g2' q1 q3 ?_ (cprL_at hc' g1 g1')
          show A.units + 1 + n + d'.depth + 1 < cLine
          omega
      | _ => simp [cpr] at hc
    | _ => simp [cpr] at hc

/-! ### < and <= of two values -/
def ltB (a b : D) : Bool := ltP (py a) (py b)
def leB (a b : D) : Bool := leP (py a) (py b)
def ordOk (a b : D) : Bool := cmpOk a && cmpOk b && cpr (py a) (py b)
def rLtD (K : PySem.W.Frag) : R2 := fun x y H Q => ∃ d e, Dp K H x d ∧ Dp K H y e ∧ d.canLay0 = true ∧ e.canLay0 = true ∧ d.depth ≤ 60 ∧ e.depth ≤ 60 ∧ cpr d e = true ∧ Q (.bl (ltP d e)) H
def rLeD (K : PySem.W.Frag) : R2 := fun x y H Q => ∃ d e, Dp K H x d ∧ Dp K H y e ∧ d.canLay0 = true ∧ e.canLay0 = true ∧ d.depth ≤ 60 ∧ e.depth ≤ 60 ∧ cpr d e = true ∧ Q (.bl (leP d e)) H
theorem op_ltD {X : Cx} (hu : X.A.units + 150 < cLine) : OpR X (compareOp .Lt) (rLtD X.K) := by
  intro pins s σ H x y v u Q I rx ry h
  obtain ⟨d, e, hd, he, ld, le, dd, de, hc, q⟩ := h
  obtain ⟨as, r1⟩ := Dp.reads I d x v hd rx
  obtain ⟨bs, r2⟩ := Dp.reads I e y u he ry
  exact lt_reads 60 d e X.A s v u as bs dd r1 r2 ld le (by omega) hc X.prog X.w X.xe _ ⟨.bl _, H, I, rfl, q⟩
theorem op_leD {X : Cx} (hu : X.A.units + 150 < cLine) : OpR X (compareOp .LtE) (rLeD X.K) := by
  intro pins s σ H x y v u Q I rx ry h
  obtain ⟨d, e, hd, he, ld, le, dd, de, hc, q⟩ := h
  obtain ⟨as, r1⟩ := Dp.reads I d x v hd rx
  obtain ⟨bs, r2⟩ := Dp.reads I e y u he ry
  exact le_reads 60 d e X.A s v u as bs dd r1 r2 ld le (by omega) hc X.prog X.w X.xe _ ⟨.bl _, H, I, rfl, q⟩
def ltD (a b : D) : Mo D := need (ordOk a b = true) (ret (.bl (ltB a b)))
def leD (a b : D) : Mo D := need (ordOk a b = true) (ret (.bl (leB a b)))
section
variable {c : Cn} {ma mb : Md}
theorem o_lt : Op2 c ma mb .s (rLtD c.K) ltD := by
  intro own env n σ H0 H1 H x y a b Q R ra rb g
  obtain ⟨h, g⟩ := g.need'
  simp only [ordOk, Bool.and_eq_true] at h
  obtain ⟨⟨ha, hb⟩, hc⟩ := h
  obtain ⟨d1, l1⟩ := Rw.dp (cmpOk_ok ha) (R.weak ra)
  obtain ⟨d2, l2⟩ := Rw.dp (cmpOk_ok hb) (R.weak rb)
  exact ⟨_, _, d1, d2, l1, l2, cmpOk_dep ha, cmpOk_dep hb, hc, g.done R (Rp.bl _)⟩
theorem o_le : Op2 c ma mb .s (rLeD c.K) leD := by
  intro own env n σ H0 H1 H x y a b Q R ra rb g
  obtain ⟨h, g⟩ := g.need'
  simp only [ordOk, Bool.and_eq_true] at h
  obtain ⟨⟨ha, hb⟩, hc⟩ := h
  obtain ⟨d1, l1⟩ := Rw.dp (cmpOk_ok ha) (R.weak ra)
  obtain ⟨d2, l2⟩ := Rw.dp (cmpOk_ok hb) (R.weak rb)
  exact ⟨_, _, d1, d2, l1, l2, cmpOk_dep ha, cmpOk_dep hb, hc, g.done R (Rp.bl _)⟩
end
end DL

/-! part five: operations upon data -/
namespace DL
open PySem PySem.Spec L2

/-! ### ints, texts, rows put together -/
def strJ (a b : Str) : Str := a ++ b
def addD : D → D → Mo D
  | .int i, .int j => ret (.int (i + j))
  | .str a, .str b => need (a.length + b.length ≤ sizeLine) (ret (.str (a ++ b)))
  | .tup a, .tup b => need (a.length + b.length ≤ sizeLine) (ret (.tup (a ++ b)))
  | .lst a, .lst b => need (a.length + b.length ≤ sizeLine) (ret (.lst (a ++ b)))
  | .int i, .bl b => ret (.int (i + if b then 1 else 0))
  | _, _ => stop
/-- two lists put together: new -/
def catD : D → D → Mo D
  | .lst a, .lst b => need (a.length + b.length ≤ sizeLine) (ret (.lst (a ++ b)))
  | _, _ => stop
def subD : D → D → Mo D
  | .int i, .int j => ret (.int (i - j))
  | _, _ => stop
def mulD : D → D → Mo D
  | .int i, .int j => need (CMul i j) (ret (.int (i * j)))
  | .str a, .int k => need (0 ≤ k ∧ a.length * k.toNat ≤ sizeLine ∧ a.length = 1 ∧ k < 1000000) (ret (.str ⟨(List.replicate k.toNat a.cps.toList).flatten.toArray⟩))
  | .lst a, .int k => need (0 ≤ k ∧ k < 2 ^ 63 ∧ a.length * k.toNat ≤ sizeLine) (ret (.lst (List.replicate k.toNat a).flatten))
  | _, _ => stop
def fdivD : D → D → Mo D
  | .int i, .int j => need (CDiv i j) (ret (.int (i / j)))
  | _, _ => stop
def modD : D → D → Mo D
  | .int i, .int j => need (0 < j) (ret (.int (i % j)))
  | _, _ => stop
def powD : D → D → Mo D
  | .int i, .int j => need (CPow i j) (ret (.int (i ^ j.toNat)))
  | _, _ => stop
def negD : D → Mo D
  | .int i => ret (.int (-i))
  | _ => stop
def gtD : D → D → Mo D
  | .int i, .int j => ret (.bl (decide (j < i)))
  | .str a, .str b => ret (.bl (decide (b.cps.toList < a.cps.toList)))
  | _, _ => stop
def geD : D → D → Mo D
  | .int i, .int j => ret (.bl (decide (j ≤ i)))
  | .str a, .str b => ret (.bl (!decide (a.cps.toList < b.cps.toList)))
  | _, _ => stop
def isNo : D → Bool
  | .non => true
  | _ => false
def isND (a b : D) : Mo D := match b with
  | .non => ret (.bl (isNo a))
  | _ => stop
def notND (a b : D) : Mo D := match b with
  | .non => ret (.bl (!isNo a))
  | _ => stop
/-- a key -/
def keyD : D → Option Key
  | .int i => some (.inl i)
  | .str s => some (.inr s)
  | _ => none
/-- what stands at a key -/
def atK : List Key → List D → Key → Option D
  | k :: ks, d :: ds, x => if k = x then some d else atK ks ds x
  | _, _, _ => none
def hasK (ks : List Key) (k : Key) : Bool := ks.any fun x => decide (x = k)
def inD (a b : D) : Mo D := match b with
  | .lst l => need (cmpOk a = true ∧ cmpOk (.lst l) = true) (ret (.bl (l.any fun z => eqB z a)))
  | .tup l => need (cmpOk a = true ∧ cmpOk (.tup l) = true) (ret (.bl (l.any fun z => eqB z a)))
  | .str z => match a with
    | .str x => need (x.length = 1) (ret (.bl (decide (x.cps.getD 0 0 ∈ z.cps.toList))))
    | _ => stop
  | .dct ks ds => match keyD a with
    | some k => ret (.bl (hasK ks k))
    | none => stop
  | _ => stop
def notInD (a b : D) : Mo D := bnd (inD a b) fun r => match r with
  | .bl t => ret (.bl (!t))
  | _ => stop

theorem strOk_iff {x : Str} : PyData.strOk x = true ↔ ∀ c ∈ x.cps.toList, c < 0x110000 := by
  unfold PyData.strOk
  rw [Array.all_eq_true_iff_forall_mem]
  constructor
  · intro h c hc
    exact of_decide_eq_true (h c (by simpa using hc))
  · intro h c hc
    exact decide_eq_true (h c (by simpa using hc))
theorem strOk_append {x y : Str} (hx : PyData.strOk x = true) (hy : PyData.strOk y = true) : PyData.strOk (x ++ y) = true := by
  rw [strOk_iff] at *
  intro c hc
  have e : (x ++ y).cps.toList = x.cps.toList ++ y.cps.toList := by
    show (x.cps ++ y.cps).toList = _
    simp
  rw [e] at hc
  rcases List.mem_append.mp hc with h | h
  · exact hx c h
  · exact hy c h
theorem strOk_sub {x : Str} {l : List Nat} (hx : PyData.strOk x = true) (h : ∀ c ∈ l, c ∈ x.cps.toList) : PyData.strOk ⟨l.toArray⟩ = true := by
  rw [strOk_iff] at *
  intro c hc
  exact hx c (h c (by simpa using hc))

section
variable {c : Cn} {K : PySem.W.Frag} {dk : DkT} {H : Hp} {A : Addr → Prop} {v : V}
theorem Rw.int' {i : Int} (h : Rw K dk H A v (.int i)) : v = .int i := by cases (show Rp K dk H A v (.int i) from h); rfl
theorem Rw.bl' {b : Bool} (h : Rw K dk H A v (.bl b)) : v = .bl b := by cases (show Rp K dk H A v (.bl b) from h); rfl
theorem Rw.str' {s : Str} (h : Rw K dk H A v (.str s)) : v = .str s ∧ PyData.strOk s = true := by
  cases (show Rp K dk H A v (.str s) from h) with
  | str h2 => exact ⟨rfl, h2⟩
theorem Rw.tup' {l : List D} (h : Rw K dk H A v (.tup l)) : ∃ a xs, v = .ref a ∧ SqT K H a xs ∧ RpL K dk H A xs l := by
  cases (show Rp K dk H A v (.tup l) from h) with
  | tup h2 t _ => exact ⟨_, _, rfl, h2, t⟩
theorem Rw.tupP {l : List D} (h : Rw K dk H A v (.tup l)) : ∃ a xs, v = .ref a ∧ SqT K H a xs ∧ RpL K dk H A xs l ∧ (tupsB l = true → PlT K H a) := by
  cases (show Rp K dk H A v (.tup l) from h) with
  | tup h2 t p => exact ⟨_, _, rfl, h2, t, p⟩
theorem Rw.non' (h : Rw K dk H A v .non) : v = .non := by cases (show Rp K dk H A v .non from h); rfl
theorem Rw.isN {d : D} (h : Rw K dk H A v d) : decide (v = .non) = isNo d := by
  cases d with
  | non => rw [h.non']; rfl
  | bl b => rw [h.bl']; rfl
  | int i => rw [h.int']; rfl
  | str s => rw [h.str'.1]; rfl
  | tup l => obtain ⟨a, xs, e, _⟩ := h.tup'; rw [e]; rfl
  | lst l => obtain ⟨a, xs, e, _⟩ := h; rw [e]; rfl
  | dct ks ds => obtain ⟨a, xs, e, _⟩ := h; rw [e]; rfl
  | deck => cases (show Rp K dk H A v .deck from h) with | deck h => rfl
  | obj a => cases (show Rp K dk H A v (.obj a) from h) with | obj => rfl
end

/-! ### the operators -/
def rAddAll (K : PySem.W.Frag) : R2 := fun x y H Q => (rI0 (fun i j => .int (i + j)) x y H Q ∨ (∃ i j, x = .str i ∧ y = .str j ∧ i.length + j.length ≤ sizeLine ∧ Q (.str (i ++ j)) H)) ∨ (rCatF K x y H Q ∨ rCat x y H Q) ∨ ∃ i k, x = .int i ∧ y = .bl k ∧ Q (.int (i + PyProof.Rows.b2i k)) H
theorem op_addAll {X : Cx} : OpR X (binaryOp .Add) (rAddAll X.K) := OpR.or (OpR.or op_add op_add_str) (OpR.or (OpR.or op_catF op_cat) op_add_ib)
def rMulAll : R2 := fun x y H Q => rI CMul (fun i j => .int (i * j)) x y H Q ∨ rRep x y H Q
theorem op_mulAll {X : Cx} : OpR X (binaryOp .Mult) rMulAll := OpR.or op_mul op_rep
def rGtAll : R2 := fun x y H Q => rI0 (fun i j => .bl (decide (j < i))) x y H Q ∨ ∃ i j, x = .str i ∧ y = .str j ∧ Q (.bl (decide (j.cps.toList < i.cps.toList))) H
theorem op_gtAll {X : Cx} : OpR X (compareOp .Gt) rGtAll := OpR.or op_gt op_gt_str
def rGeAll : R2 := fun x y H Q => rI0 (fun i j => .bl (decide (j ≤ i))) x y H Q ∨ ∃ i j, x = .str i ∧ y = .str j ∧ Q (.bl (!decide (i.cps.toList < j.cps.toList))) H
theorem op_geAll {X : Cx} : OpR X (compareOp .GtE) rGeAll := OpR.or op_ge op_ge_str

section
variable {c : Cn} {ma mb : Md}
theorem o_add : Op2 c ma mb .s (rAddAll c.K) addD := by
  intro own env n σ H0 H1 H x y a b Q R ra rb g
  have wa := R.weak ra
  have wb := R.weak rb
  unfold addD at g
  split at g
  · rw [wa.int', wb.int']
    exact .inl (.inl ⟨_, _, rfl, rfl, g.done R (Rp.int _)⟩)
  · obtain ⟨h, g⟩ := g.need'
    obtain ⟨e1, k1⟩ := wa.str'
    obtain ⟨e2, k2⟩ := wb.str'
    subst e1 e2
    exact .inl (.inr ⟨_, _, rfl, rfl, h, g.done R (Rp.str (strOk_append k1 k2))⟩)
  · obtain ⟨h, g⟩ := g.need'
    obtain ⟨p, xs, e1, s1, r1, t1⟩ := wa.tupP
    obtain ⟨q, ys, e2, s2, r2, t2⟩ := wb.tupP
    subst e1 e2
    have l1 := r1.length
    have l2 := r2.length
    refine .inr (.inl (.inl ⟨p, q, xs, ys, rfl, rfl, s1, s2, by omega, fun e => ?_, fun e e' => ?_, fun e e' => ?_⟩))
    · subst e
      cases r1
      exact g.done R (Rp.tup s2 r2 t2)
    · subst e'
      cases r2
      rw [List.append_nil] at g
      exact g.done R (Rp.tup s1 r1 t1)
    · exact g.newT (by simp) R (r1.append r2)
  · obtain ⟨h, g⟩ := g.need'
    obtain ⟨p, xs, e1, n1, s1, r1⟩ := wa
    obtain ⟨q, ys, e2, n2, s2, r2⟩ := wb
    subst e1 e2
    have l1 := r1.length
    have l2 := r2.length
    exact .inr (.inl (.inr ⟨p, q, xs, ys, rfl, rfl, s1, s2, by omega, fun p' hp => g.newL R hp (r1.append r2)⟩))
  · rw [wa.int', wb.bl']
    refine .inr (.inr ⟨_, _, rfl, rfl, ?_⟩)
    rename_i i k
    have e : PyProof.Rows.b2i k = (if k then 1 else 0) := by cases k <;> rfl
    rw [e]
    exact g.done R (Rp.int _)
  · exact g.stop'.elim
theorem o_cat : Op2 c ma mb .f (rAddAll c.K) catD := by
  intro own env n σ H0 H1 H x y a b Q R ra rb g
  have wa := R.weak ra
  have wb := R.weak rb
  unfold catD at g
  split at g
  · obtain ⟨h, g⟩ := g.need'
    obtain ⟨p, xs, e1, n1, s1, r1⟩ := wa
    obtain ⟨q, ys, e2, n2, s2, r2⟩ := wb
    subst e1 e2
    have l1 := r1.length
    have l2 := r2.length
    exact .inr (.inl (.inr ⟨p, q, xs, ys, rfl, rfl, s1, s2, by omega, fun p' hp => g.newL R hp (r1.append r2)⟩))
  · exact g.stop'.elim
theorem o_sub : Op2 c ma mb .s (rI0 fun i j => .int (i - j)) subD := by
  intro own env n σ H0 H1 H x y a b Q R ra rb g
  unfold subD at g
  split at g
  · rw [(R.weak ra).int', (R.weak rb).int']
    exact ⟨_, _, rfl, rfl, g.done R (Rp.int _)⟩
  · exact g.stop'.elim
theorem o_fdiv : Op2 c ma mb .s (rI CDiv fun i j => .int (i / j)) fdivD := by
  intro own env n σ H0 H1 H x y a b Q R ra rb g
  unfold fdivD at g
  split at g
  · obtain ⟨h, g⟩ := g.need'
    rw [(R.weak ra).int', (R.weak rb).int']
    exact ⟨_, _, rfl, rfl, h, g.done R (Rp.int _)⟩
  · exact g.stop'.elim
theorem o_mod : Op2 c ma mb .s (rI (fun _ j => 0 < j) fun i j => .int (i % j)) modD := by
  intro own env n σ H0 H1 H x y a b Q R ra rb g
  unfold modD at g
  split at g
  · obtain ⟨h, g⟩ := g.need'
    rw [(R.weak ra).int', (R.weak rb).int']
    exact ⟨_, _, rfl, rfl, h, g.done R (Rp.int _)⟩
  · exact g.stop'.elim
theorem o_pow : Op2 c ma mb .s (rI CPow fun i j => .int (i ^ j.toNat)) powD := by
  intro own env n σ H0 H1 H x y a b Q R ra rb g
  unfold powD at g
  split at g
  · obtain ⟨h, g⟩ := g.need'
    rw [(R.weak ra).int', (R.weak rb).int']
    exact ⟨_, _, rfl, rfl, h, g.done R (Rp.int _)⟩
  · exact g.stop'.elim
theorem o_gt : Op2 c ma mb .s rGtAll gtD := by
  intro own env n σ H0 H1 H x y a b Q R ra rb g
  unfold gtD at g
  split at g
  · rw [(R.weak ra).int', (R.weak rb).int']
    exact .inl ⟨_, _, rfl, rfl, g.done R (Rp.bl _)⟩
  · rw [(R.weak ra).str'.1, (R.weak rb).str'.1]
    exact .inr ⟨_, _, rfl, rfl, g.done R (Rp.bl _)⟩
  · exact g.stop'.elim
theorem o_ge : Op2 c ma mb .s rGeAll geD := by
  intro own env n σ H0 H1 H x y a b Q R ra rb g
  unfold geD at g
  split at g
  · rw [(R.weak ra).int', (R.weak rb).int']
    exact .inl ⟨_, _, rfl, rfl, g.done R (Rp.bl _)⟩
  · rw [(R.weak ra).str'.1, (R.weak rb).str'.1]
    exact .inr ⟨_, _, rfl, rfl, g.done R (Rp.bl _)⟩
  · exact g.stop'.elim
theorem o_isN : Op2 c ma mb .s (fun x y H Q => y = .non ∧ Q (.bl (decide (x = .non))) H) isND := by
  intro own env n σ H0 H1 H x y a b Q R ra rb g
  unfold isND at g
  split at g
  · refine ⟨(R.weak rb).non', ?_⟩
    rw [(R.weak ra).isN]
    exact g.done R (Rp.bl _)
  · exact g.stop'.elim
theorem o_notN : Op2 c ma mb .s (fun x y H Q => y = .non ∧ Q (.bl (!decide (x = .non))) H) notND := by
  intro own env n σ H0 H1 H x y a b Q R ra rb g
  unfold notND at g
  split at g
  · refine ⟨(R.weak rb).non', ?_⟩
    rw [(R.weak ra).isN]
    exact g.done R (Rp.bl _)
  · exact g.stop'.elim
theorem o_neg : Op1 c ma .s (rU fun i => .int (-i)) negD := by
  intro own env n σ H0 H x a Q R ra g
  unfold negD at g
  split at g
  · rw [(R.weak ra).int']
    exact ⟨_, rfl, g.done R (Rp.int _)⟩
  · exact g.stop'.elim
theorem o_mul : Op2 c ma mb .s rMulAll (fun a b => match a, b with | .str _, _ => stop | _, _ => mulD a b) := by
  intro own env n σ H0 H1 H x y a b Q R ra rb g
  have wa := R.weak ra
  have wb := R.weak rb
  cases a with
  | int i =>
    cases b with
    | int j =>
      obtain ⟨h, g⟩ := Go.need' (p := CMul i j) g
      rw [wa.int', wb.int']
      exact .inl ⟨_, _, rfl, rfl, h, g.done R (Rp.int _)⟩
    | _ => exact g.stop'.elim
  | lst l =>
    cases b with
    | int k =>
      obtain ⟨⟨h1, h2, h3⟩, g⟩ := Go.need' (p := 0 ≤ k ∧ k < 2 ^ 63 ∧ l.length * k.toNat ≤ sizeLine) g
      obtain ⟨p, xs, e1, n1, s1, r1⟩ := wa
      rw [e1, wb.int']
      have l1 := r1.length
      refine .inr ⟨p, k, xs, rfl, rfl, s1, by omega, h2, by rw [l1]; exact h3, fun p' hp => g.newL R hp ?_⟩
      generalize k.toNat = j
      induction j with
      | zero => exact .nil
      | succ j ih => exact (r1.append ih)
    | _ => exact g.stop'.elim
  | _ => cases b <;> exact g.stop'.elim
end

/-! ### in -/
def rInTD (K : PySem.W.Frag) : R2 := fun x y H Q => ∃ d ds, Dp K H x d ∧ Dp K H y (.tuple ds) ∧ SeqAt.shaped d = true ∧ SeqAt.shaped (.tuple ds) = true ∧ Q (.bl (ds.any fun z => PyData.eqv z d)) H
def rNotInTD (K : PySem.W.Frag) : R2 := fun x y H Q => ∃ d ds, Dp K H x d ∧ Dp K H y (.tuple ds) ∧ SeqAt.shaped d = true ∧ SeqAt.shaped (.tuple ds) = true ∧ Q (.bl (!ds.any fun z => PyData.eqv z d)) H
theorem room_t {A : Around} {d : PyData} {ds : List PyData} (h : SeqAt.shaped d = true) (hu : A.units + 65 < cLine) : A.units + 1 + min (PyData.depthAll ds) d.depth < cLine := by
  have h1 := SeqAt.depth_of_shaped h
  have h2 := Nat.min_le_right (PyData.depthAll ds) d.depth
  omega
theorem op_inTD {X : Cx} (hu : X.A.units + 65 < cLine) : OpR X (compareOp .In) (rInTD X.K) := by
  intro pins s σ H x y v u Q I rx ry h
  obtain ⟨d, ds, hd, he, sd, se, q⟩ := h
  obtain ⟨as, r1⟩ := Dp.reads I d x v hd rx
  obtain ⟨bs, r2⟩ := Dp.reads I (.tuple ds) y u he ry
  exact SeqAt.in_tuple_reads r2 r1 (SeqAt.canLay_of_shaped se) (SeqAt.canLay_of_shaped sd) (room_t sd hu) ⟨.bl _, H, I, rfl, q⟩
theorem op_notInTD {X : Cx} (hu : X.A.units + 65 < cLine) : OpR X (compareOp .NotIn) (rNotInTD X.K) := by
  intro pins s σ H x y v u Q I rx ry h
  obtain ⟨d, ds, hd, he, sd, se, q⟩ := h
  obtain ⟨as, r1⟩ := Dp.reads I d x v hd rx
  obtain ⟨bs, r2⟩ := Dp.reads I (.tuple ds) y u he ry
  exact SeqAt.notIn_tuple_reads r2 r1 (SeqAt.canLay_of_shaped se) (SeqAt.canLay_of_shaped sd) (room_t sd hu) ⟨.bl _, H, I, rfl, q⟩
def rInDc : R2 := fun x y H Q => ∃ a o, y = .ref a ∧ DGet H a x o ∧ Q (.bl o.isSome) H
def rNotInDc : R2 := fun x y H Q => ∃ a o, y = .ref a ∧ DGet H a x o ∧ Q (.bl (!o.isSome)) H
theorem op_inDc {X : Cx} (hu : X.A.units + 1 < cLine) : OpR X (compareOp .In) rInDc := by
  intro pins s σ H x y v u Q I rx ry h
  obtain ⟨a, o, rfl, g, q⟩ := h
  cases ry
  exact d_in hu I g rx fun s' I' => ⟨.bl _, H, I', rfl, q⟩
theorem op_notInDc {X : Cx} (hu : X.A.units + 1 < cLine) : OpR X (compareOp .NotIn) rNotInDc := by
  intro pins s σ H x y v u Q I rx ry h
  obtain ⟨a, o, rfl, g, q⟩ := h
  cases ry
  exact d_notIn hu I g rx fun s' I' => ⟨.bl _, H, I', rfl, q⟩
def rInAll (K : PySem.W.Frag) : R2 := fun x y H Q => (rInD K x y H Q ∨ rInTD K x y H Q) ∨ rInDc x y H Q ∨ ∃ (c : Nat) (z : Str), x = .str ⟨#[c]⟩ ∧ y = .str z ∧ Q (.bl (decide (c ∈ z.cps.toList))) H
def rNotInAll (K : PySem.W.Frag) : R2 := fun x y H Q => (rNotInD K x y H Q ∨ rNotInTD K x y H Q) ∨ rNotInDc x y H Q ∨ ∃ (c : Nat) (z : Str), x = .str ⟨#[c]⟩ ∧ y = .str z ∧ Q (.bl (!decide (c ∈ z.cps.toList))) H
theorem op_inAll {X : Cx} (hu : X.A.units + 65 < cLine) : OpR X (compareOp .In) (rInAll X.K) := OpR.or (OpR.or (op_inD hu) (op_inTD hu)) (OpR.or (op_inDc (by omega)) op_in_sign)
theorem op_notInAll {X : Cx} (hu : X.A.units + 65 < cLine) : OpR X (compareOp .NotIn) (rNotInAll X.K) := OpR.or (OpR.or (op_notInD hu) (op_notInTD hu)) (OpR.or (op_notInDc (by omega)) op_notIn_sign)

theorem one_sign {x : Str} (h : x.length = 1) : x = ⟨#[x.cps.getD 0 0]⟩ := by
  obtain ⟨⟨l⟩⟩ := x
  have h : l.length = 1 := h
  match l, h with
  | [c], _ => rfl
theorem any_py (l : List D) (d : PyData) : (pyL l).any (fun z => PyData.eqv z d) = l.any fun z => PyData.eqv (py z) d := by
  rw [pyL_map, List.any_map]
  rfl
theorem kV_key {K : PySem.W.Frag} {dk : DkT} {H : Hp} {A : Addr → Prop} {v : V} {d : D} {k : Key} (h : Rw K dk H A v d) (e : keyD d = some k) : v = kV k := by
  cases d with
  | int i => cases e; exact h.int'
  | str s => cases e; exact h.str'.1
  | _ => cases e
theorem atK_val {K : PySem.W.Frag} {dk : DkT} {H : Hp} {A : Addr → Prop} {k : Key} : ∀ {kvs : List (Key × V)} {ds : List D}, RpL K dk H A (kvs.map (·.2)) ds →
    (match atK (kvs.map (·.1)) ds k with | some d => ∃ v, valV kvs k = some v ∧ Rp K dk H A v d | none => valV kvs k = none)
  | [], _, .nil => rfl
  | (k', v) :: kvs, d :: ds, .cons r t => by
    simp only [List.map_cons, atK]
    by_cases e : k' = k
    · rw [if_pos e]
      exact ⟨v, valV_pos e, r⟩
    · rw [if_neg e]
      have ih := atK_val (k := k) t
      rw [valV_neg (p := (k', v)) e]
      exact ih
theorem contains_val {kvs : List (Key × V)} {k : Key} : hasK (kvs.map (·.1)) k = (valV kvs k).isSome := by
  unfold hasK
  rw [List.any_map, ← valV_any]
  rfl
theorem Rw.dctGet {K : PySem.W.Frag} {dk : DkT} {H : Hp} {A : Addr → Prop} {v : V} {ks : List Key} {ds : List D} {k : Key} (h : Rw K dk H A v (.dct ks ds)) :
    ∃ a o, v = .ref a ∧ DGet H a (kV k) o ∧ o.isSome = hasK ks k ∧ (match atK ks ds k with | some d => ∃ w, o = some w ∧ Rp K dk H A w d | none => o = none) := by
  obtain ⟨p, kvs, e, nd, h1, h2, h3⟩ := h
  subst h2
  exact ⟨p, valV kvs k, e, .inl ⟨kvs, k, h1, rfl, rfl⟩, contains_val.symm, atK_val h3⟩

section
variable {c : Cn} {ma mb : Md}
theorem o_in : Op2 c ma mb .s (rInAll c.K) inD := by
  intro own env n σ H0 H1 H x y a b Q R ra rb g
  have wa := R.weak ra
  have wb := R.weak rb
  unfold inD at g
  split at g
  · obtain ⟨⟨h1, h2⟩, g⟩ := g.need'
    obtain ⟨d1, l1⟩ := Rw.dp (cmpOk_ok h1) wa
    obtain ⟨d2, l2⟩ := Rw.dp (cmpOk_ok h2) wb
    refine .inl (.inl ⟨_, _, d1, d2, shaped_of h1 l1, shaped_of h2 l2, ?_⟩)
    rw [any_py]
    exact g.done R (Rp.bl _)
  · obtain ⟨⟨h1, h2⟩, g⟩ := g.need'
    obtain ⟨d1, l1⟩ := Rw.dp (cmpOk_ok h1) wa
    obtain ⟨d2, l2⟩ := Rw.dp (cmpOk_ok h2) wb
    refine .inl (.inr ⟨_, _, d1, d2, shaped_of h1 l1, shaped_of h2 l2, ?_⟩)
    rw [any_py]
    exact g.done R (Rp.bl _)
  · split at g
    · obtain ⟨h, g⟩ := g.need'
      refine .inr (.inr ⟨_, _, ?_, wb.str'.1, g.done R (Rp.bl _)⟩)
      rw [wa.str'.1]
      exact congrArg V.str (one_sign h)
    · exact g.stop'.elim
  · split at g
    · rename_i k hk
      obtain ⟨p, o, e, g1, g2, g3⟩ := Rw.dctGet (k := k) wb
      refine .inr (.inl ⟨p, o, e, by rw [kV_key wa hk]; exact g1, ?_⟩)
      rw [g2]
      exact g.done R (Rp.bl _)
    · exact g.stop'.elim
  · exact g.stop'.elim
theorem o_notIn : Op2 c ma mb .s (rNotInAll c.K) notInD := by
  intro own env n σ H0 H1 H x y a b Q R ra rb g
  have wa := R.weak ra
  have wb := R.weak rb
  have fin : ∀ {r : Bool}, Go c own env H n Md.s (bnd (ret (D.bl r)) fun r => match r with | .bl t => ret (.bl (!t)) | _ => stop) Q → Q (.bl (!r)) H := fun {r} g => Go.done (md := .s) (b := D.bl (!r)) R g (Rp.bl (!r))
  have nd : ∀ {p : Prop} {m : Mo D} {f : D → Mo D}, Go c own env H n Md.s (bnd (need p m) f) Q → p ∧ Go c own env H n Md.s (bnd m f) Q := fun {p m f} g => by
    obtain ⟨Qd, ⟨h0, h1⟩, h2⟩ := g
    exact ⟨h0, Qd, h1, h2⟩
  have st : ∀ {f : D → Mo D}, Go c own env H n Md.s (bnd (stop : Mo D) f) Q → False := fun {f} g => by
    obtain ⟨Qd, h1, h2⟩ := g
    exact h1
  unfold notInD inD at g
  split at g
  · obtain ⟨⟨h1, h2⟩, g⟩ := nd g
    obtain ⟨d1, l1⟩ := Rw.dp (cmpOk_ok h1) wa
    obtain ⟨d2, l2⟩ := Rw.dp (cmpOk_ok h2) wb
    refine .inl (.inl ⟨_, _, d1, d2, shaped_of h1 l1, shaped_of h2 l2, ?_⟩)
    rw [any_py]
    exact fin g
  · obtain ⟨⟨h1, h2⟩, g⟩ := nd g
    obtain ⟨d1, l1⟩ := Rw.dp (cmpOk_ok h1) wa
    obtain ⟨d2, l2⟩ := Rw.dp (cmpOk_ok h2) wb
    refine .inl (.inr ⟨_, _, d1, d2, shaped_of h1 l1, shaped_of h2 l2, ?_⟩)
    rw [any_py]
    exact fin g
  · split at g
    · obtain ⟨h, g⟩ := nd g
      refine .inr (.inr ⟨_, _, ?_, wb.str'.1, fin g⟩)
      rw [wa.str'.1]
      exact congrArg V.str (one_sign h)
    · exact (st g).elim
  · split at g
    · rename_i k hk
      obtain ⟨p, o, e, g1, g2, g3⟩ := Rw.dctGet (k := k) wb
      refine .inr (.inl ⟨p, o, e, by rw [kV_key wa hk]; exact g1, ?_⟩)
      rw [g2]
      exact fin g
    · exact (st g).elim
  · exact (st g).elim
end
end DL

/-! part six: items, slices, calls of built-ins -/
namespace DL
open PySem PySem.Spec L2

/-! ### items -/
def ixD (a b : D) : Mo D := match a with
  | .lst l => match b with
    | .int i => match atI l i with | some d => ret d | none => stop
    | _ => stop
  | .tup l => match b with
    | .int i => match atI l i with | some d => ret d | none => stop
    | _ => stop
  | .str z => match b with
    | .int i => match atI z.cps.toList i with | some c => need (z.length ≤ sizeLine) (ret (.str ⟨#[c]⟩)) | none => stop
    | _ => stop
  | .dct ks ds => match keyD b with
    | some k => match atK ks ds k with | some d => ret d | none => stop
    | none => stop
  | _ => stop
def rIxDc : R2 := fun x y H Q => ∃ a v, x = .ref a ∧ DGet H a y (some v) ∧ Q v H
/-- the end of a subscript, whatever comes -/
theorem tail_any {P : Program} {w : World} {A : Around} {E : Value → Shared → Prop} {s : Shared} {ve sl : Expr} {o i : Value} {T id : String} {Q : Value → Shared → Prop} (hT : s.TypeIs o T)
    (hl : typeLookup (.type T) "__getitem__" = pure (some (.builtin id))) (hs : subscripted sl false o i = operate [o, i] (getItem o i)) (h : wpAny (model P w) A (getItem o i) Q E s) :
    wpAny (model P w) A (PyProof.Rows.subscriptTail ve sl o i) Q E s := by
  unfold PyProof.Rows.subscriptTail; refine PySem.wpAny_bind ?_; rw [getitemInPython_of_ne hT.not_modules]
  have go : wpAny (model P w) A (subscripted sl false o i) (fun r s1 => wpAny (model P w) A (letTemporaryGo ve o r >>= fun _ => pure r) Q E s1) E s := by
    rw [hs]; exact wpAny_operating (wpAny_mono h (fun r s1 q => PySem.wpAny_bind (wpAny_letTemporaryGo (wpAny_pure q))) fun _ _ z => z)
  refine PySem.wpAny_bind (wpAny_specialOf hT hl ?_)
  first | exact wpAny_pure (PySem.wpAny_bind go) | exact PySem.wpAny_bind (wpAny_pure (PySem.wpAny_bind go)) | exact PySem.wpAny_bind go
theorem ix_dict {X : Cx} (hu : X.A.units + 1 < cLine) : IxR X rIxDc := by
  intro ve sl pins s σ H x y v u Q I rx ry h hs
  obtain ⟨a, w, rfl, g, q⟩ := h
  cases rx
  exact tail_any (dict_typeIs I g) PySem.F.slot_dict_getitem.lookup hs (d_getItem hu I g ry fun w' s' I' r' => ⟨w, H, I', r', q⟩)
def rIxAll (K : PySem.W.Frag) : R2 := fun x y H Q => (rIxL K x y H Q ∨ rIxT K x y H Q) ∨ rIxDc x y H Q ∨ rIxS x y H Q
theorem ix_all {X : Cx} (hu : X.A.units + 1 < cLine) : IxR X (rIxAll X.K) := IxR.or (IxR.or ix_list ix_tup) (IxR.or (ix_dict hu) ix_str)
theorem atI_rel {K : PySem.W.Frag} {dk : DkT} {H : Hp} {A : Addr → Prop} {xs : List V} {l : List D} {i : Int} {d : D} (r : RpL K dk H A xs l) (h : atI l i = some d) : ∃ v, atI xs i = some v ∧ Rp K dk H A v d := by
  unfold atI at *
  rw [r.length]
  cases e : ixN l.length i with
  | none => rw [e] at h; cases h
  | some j =>
    rw [e] at h
    exact r.getD h
section
variable {c : Cn} {ma mb : Md}
theorem o_ix : Op2 c ma mb .s (rIxAll c.K) ixD := by
  intro own env n σ H0 H1 H x y a b Q R ra rb g
  have wa := R.weak ra
  have wb := R.weak rb
  unfold ixD at g
  split at g
  · split at g
    · split at g
      · rename_i hd
        obtain ⟨p, xs, e1, n1, s1, r1⟩ := wa
        obtain ⟨v, h1, h2⟩ := atI_rel r1 hd
        exact .inl (.inl ⟨p, xs, _, v, e1, wb.int', SqL.of s1, h1, g.done R h2⟩)
      · exact g.stop'.elim
    · exact g.stop'.elim
  · split at g
    · split at g
      · rename_i hd
        obtain ⟨p, xs, e1, s1, r1⟩ := wa.tup'
        obtain ⟨v, h1, h2⟩ := atI_rel r1 hd
        exact .inl (.inr ⟨p, xs, _, v, e1, wb.int', s1, h1, g.done R h2⟩)
      · exact g.stop'.elim
    · exact g.stop'.elim
  · split at g
    · split at g
      · rename_i hd
        obtain ⟨h, g⟩ := g.need'
        obtain ⟨e1, k1⟩ := wa.str'
        refine .inr (.inr ⟨_, _, _, e1, wb.int', h, hd, g.done R (Rp.str (strOk_sub (l := [_]) k1 fun c hc => ?_))⟩)
        have e2 := List.mem_singleton.mp hc
        subst e2
        obtain ⟨j, _, hj, _⟩ := atI_get hd
        exact List.mem_of_getElem? hj
      · exact g.stop'.elim
    · exact g.stop'.elim
  · split at g
    · rename_i k hk
      split at g
      · rename_i d hd
        obtain ⟨p, o, e, g1, g2, g3⟩ := Rw.dctGet (k := k) wa
        rw [hd] at g3
        obtain ⟨w, e2, r2⟩ := g3
        subst e2
        exact .inr (.inl ⟨p, w, e, by rw [kV_key wb hk]; exact g1, g.done R r2⟩)
      · exact g.stop'.elim
    · exact g.stop'.elim
  · exact g.stop'.elim
end

/-! ### slices -/
def cutL {α : Type} (xs : List α) (lo hi : Option Int) : List α := (xs.drop (HT.sIx xs.length 0 lo)).take (HT.sIx xs.length xs.length hi - HT.sIx xs.length 0 lo)
def slD (a : D) (l h : Option Int) : Mo D := match a with
  | .lst xs => ret (.lst (cutL xs l h))
  | .tup xs => ret (.tup (cutL xs l h))
  | .str z => need (z.length ≤ sizeLine) (ret (.str (cutS z l h)))
  | _ => stop
/-- of a list: new -/
def slLD (a : D) (l h : Option Int) : Mo D := match a with
  | .lst xs => ret (.lst (cutL xs l h))
  | _ => stop
def rSlAll (K : PySem.W.Frag) : V → Option Int → Option Int → Hp → VK → Prop := fun x lo hi H Q => (rSlL K x lo hi H Q ∨ rSlF K x lo hi H Q) ∨ rSlS x lo hi H Q
theorem sl_all {X : Cx} : SlR X (rSlAll X.K) := SlR.or (SlR.or sl_list sl_tupF) sl_str
theorem cut_rel {K : PySem.W.Frag} {dk : DkT} {H : Hp} {A : Addr → Prop} {xs : List V} {l : List D} {lo hi : Option Int} (r : RpL K dk H A xs l) : RpL K dk H A (cutV xs lo hi) (cutL l lo hi) := by
  unfold cutV cutL
  rw [r.length]
  exact (r.drop _).take _
/-- a slice's part -/
abbrev DO := Env' → Mo (Option Int)
def tO (c : Cn) (t : DO) : TO := fun σ H Q => ∃ own env n, ER c own env n σ H ∧ ∃ Qd, t env n Qd (c.Xq env) ∧ ∀ o n' H', Qd o n' → Ext c.dk H H' → VI c.K c.dk n' H' → Q o H'
def noPart : DO := fun _ => ret none
def intPart (t : DE) : DO := fun env => bnd (t env) fun d => match d with | .int i => ret (some i) | _ => stop
theorem po_no {X : Cx} {c : Cn} : PO X none (tO c noPart) := by
  refine ⟨fun pins s σ H Q I h => po_none.run pins s σ H Q I ?_⟩
  obtain ⟨own, env, n, R, Qd, h1, h2⟩ := h
  exact h2 none n H h1 Ext.refl R.vi
theorem po_yes {X : Cx} {c : Cn} {e : Expr} {t : DE} (he : PE X e (tX c .w t)) : PO X (some e) (tO c (intPart t)) := by
  refine ⟨fun pins s σ H Q I h => (po_some he).run pins s σ H Q I ?_⟩
  obtain ⟨own, env, n, R, Qd, h1, h2⟩ := h
  refine ⟨own, env, n, R, _, h1, fun d n' v H' q e vi r => ?_⟩
  dsimp only at q
  split at q
  · exact ⟨_, Rw.int' r, h2 _ n' H' q e vi⟩
  · exact q.elim
def sl3 (ta : DE) (tl th : DO) (f : D → Option Int → Option Int → Mo D) : DE := fun env => bnd (ta env) fun a => bnd (tl env) fun l => bnd (th env) fun h => f a l h
def Op3 (c : Cn) (ma md : Md) (r : V → Option Int → Option Int → Hp → VK → Prop) (f : D → Option Int → Option Int → Mo D) : Prop :=
  ∀ own env n σ H0 H x a l h Q, ER c own env n σ H → Rm c (AV c own) H0 H ma x a → Go c own env H n md (f a l h) Q → r x l h H Q
section
variable {c : Cn} {ma mb md : Md} {ta : DE} {tl th : DO} {r : V → Option Int → Option Int → Hp → VK → Prop} {f : D → Option Int → Option Int → Mo D} {σ : St} {H : Hp} {Q : VK}
theorem sl_tX (h : Op3 c ma md r f) (q : tX c md (sl3 ta tl th f) σ H Q) : tSl r (tX c ma ta) (tO c tl) (tO c th) σ H Q := by
  obtain ⟨own, env, n, R, Qd, h1, h2⟩ := q
  refine ⟨own, env, n, R, _, h1, fun a n1 x H1 q e vi ra => ?_⟩
  have R1 := R.go e vi
  refine ⟨own, env, n1, R1, _, q, fun l n2 H2 q2 e2 vi2 => ?_⟩
  have R2 := R1.go e2 vi2
  refine ⟨own, env, n2, R2, _, q2, fun hh n3 H3 q3 e3 vi3 => ?_⟩
  have R3 := R2.go e3 vi3
  have E := (e.trans e2).trans e3
  refine h own env n3 σ H H3 x a l hh Q R3 (ra.on vi (fun _ z => AV.deck z) (e2.trans e3)) ⟨Qd, q3, fun d4 n4 v4 H4 q4 e4 vi4 r4 => ?_⟩
  exact h2 d4 n4 v4 H4 q4 (E.trans e4) vi4 (Rm.back vi3 E r4)
theorem cut_all {α : Type} {xs : List α} {l h : Option Int} (hw : HT.sIx xs.length 0 l = 0 ∧ HT.sIx xs.length xs.length h = xs.length) : cutL xs l h = xs := by
  unfold cutL
  rw [hw.1, hw.2]
  simp
theorem o_sl : Op3 c ma .s (rSlAll c.K) slD := by
  intro own env n σ H0 H x a l h Q R ra g
  have wa := R.weak ra
  unfold slD at g
  split at g
  · obtain ⟨p, xs, e1, n1, s1, r1⟩ := wa
    exact .inl (.inl ⟨p, xs, e1, SqL.of s1, fun p' hp => g.newL R hp (cut_rel r1)⟩)
  · obtain ⟨p, xs, e1, s1, r1, t1⟩ := wa.tupP
    refine .inl (.inr ⟨p, xs, e1, s1, fun hw => ?_, fun hw => g.newT (by simp) R (cut_rel r1)⟩)
    rw [cut_all (by rw [← r1.length]; exact hw)] at g
    exact g.done R (Rp.tup s1 r1 t1)
  · obtain ⟨hz, g⟩ := g.need'
    obtain ⟨e1, k1⟩ := wa.str'
    refine .inr ⟨_, e1, hz, g.done R (Rp.str (strOk_sub k1 fun c hc => ?_))⟩
    exact List.mem_of_mem_drop (List.mem_of_mem_take hc)
  · exact g.stop'.elim
theorem o_slL : Op3 c ma .f (rSlAll c.K) slLD := by
  intro own env n σ H0 H x a l h Q R ra g
  have wa := R.weak ra
  unfold slLD at g
  split at g
  · obtain ⟨p, xs, e1, n1, s1, r1⟩ := wa
    exact .inl (.inl ⟨p, xs, e1, SqL.of s1, fun p' hp => g.newL R hp (cut_rel r1)⟩)
  · exact g.stop'.elim
end

/-! ### calls -/
/-- a call of a built-in with one argument -/
def OpC (c : Cn) (ma md : Md) (r : List V → Hp → VK → Prop) (f : D → Mo D) : Prop :=
  ∀ own env n σ H0 H x a Q, ER c own env n σ H → Rm c (AV c own) H0 H ma x a → Go c own env H n md (f a) Q → r [x] H Q
section
variable {c : Cn} {ma mb md : Md} {ta tb : DE} {r : List V → Hp → VK → Prop} {f : D → Mo D} {σ : St} {H : Hp} {Q : VK}
theorem opC_tX (h : OpC c ma md r f) (q : tX c md (un1 ta f) σ H Q) : tCB r (tCons (tX c ma ta) tNil) σ H Q :=
  op1_tX (r := fun x H Q => r [x] H Q) (fun own env n σ H0 H x a Q R ra g => h own env n σ H0 H x a Q R ra g) q
def lenD : D → Mo D
  | .str z => need (z.length ≤ sizeLine) (ret (.int z.length))
  | .lst l => ret (.int l.length)
  | .tup l => ret (.int l.length)
  | .dct ks _ => ret (.int ks.length)
  | _ => stop
def rLenAll (K : PySem.W.Frag) : List V → Hp → VK → Prop := fun xs H Q => (∃ x n, xs = [x] ∧ LenV K x H n ∧ Q (.int n) H) ∨ ∃ a kvs, xs = [V.ref a] ∧ Rd H a (.dK kvs) ∧ Q (.int kvs.length) H
theorem call_lenR {X : Cx} : CallR X (.builtin "len") (fun xs H Q => ∃ a kvs, xs = [V.ref a] ∧ Rd H a (.dK kvs) ∧ Q (.int kvs.length) H) := by
  intro pins s σ H xs us Q I r h
  obtain ⟨a, kvs, rfl, ha, q⟩ := h
  obtain ⟨u, rfl, ru⟩ := vals1 r
  cases ru
  exact d_len I ha fun t s' I' => ⟨.int kvs.length, H, I', ⟨t, rfl⟩, q⟩
theorem call_lenAll {X : Cx} : CallR X (.builtin "len") (rLenAll X.K) := CallR.or call_len call_lenR
theorem o_len : OpC c ma .s (rLenAll c.K) lenD := by
  intro own env n σ H0 H x a Q R ra g
  have wa := R.weak ra
  unfold lenD at g
  split at g
  · obtain ⟨h, g⟩ := g.need'
    obtain ⟨e1, k1⟩ := wa.str'
    subst e1
    exact .inl ⟨_, _, rfl, ⟨h, rfl⟩, g.done R (Rp.int _)⟩
  · obtain ⟨p, xs, e1, n1, s1, r1⟩ := wa
    subst e1
    refine .inl ⟨_, _, rfl, .inl ⟨xs, SqL.of s1, rfl⟩, ?_⟩
    rw [r1.length]
    exact g.done R (Rp.int _)
  · obtain ⟨p, xs, e1, s1, r1⟩ := wa.tup'
    subst e1
    refine .inl ⟨_, _, rfl, .inr ⟨xs, s1, rfl⟩, ?_⟩
    rw [r1.length]
    exact g.done R (Rp.int _)
  · obtain ⟨p, kvs, e1, n1, h1, h2, h3⟩ := wa
    subst e1
    refine .inr ⟨p, kvs, rfl, h1, ?_⟩
    subst h2
    rw [List.length_map] at g
    exact g.done R (Rp.int _)
  · exact g.stop'.elim
def listD : D → Mo D
  | .lst l => ret (.lst l)
  | .tup l => ret (.lst l)
  | _ => stop
theorem o_list : OpC c ma .f (fun xs H Q => ∃ p ys, xs = [.ref p] ∧ (SqL c.K H p ys ∨ SqT c.K H p ys) ∧ ∀ l, H l = none → Q (.ref l) (upd H l (.lst ys))) listD := by
  intro own env n σ H0 H x a Q R ra g
  have wa := R.weak ra
  unfold listD at g
  split at g
  · obtain ⟨p, xs, e1, n1, s1, r1⟩ := wa
    subst e1
    exact ⟨p, xs, rfl, .inl (SqL.of s1), fun p' hp => g.newL R hp r1⟩
  · obtain ⟨p, xs, e1, s1, r1⟩ := wa.tup'
    subst e1
    exact ⟨p, xs, rfl, .inr s1, fun p' hp => g.newL R hp r1⟩
  · exact g.stop'.elim
def tupleD : D → Mo D
  | .lst l => ret (.tup l)
  | .tup l => ret (.tup l)
  | _ => stop
theorem o_tuple : OpC c ma .s (fun xs H Q => ∃ p ys, xs = [.ref p] ∧ ((SqL c.K H p ys ∧ NewT H ys Q) ∨ (SqT c.K H p ys ∧ Q (.ref p) H))) tupleD := by
  intro own env n σ H0 H x a Q R ra g
  have wa := R.weak ra
  unfold tupleD at g
  split at g
  · obtain ⟨p, xs, e1, n1, s1, r1⟩ := wa
    subst e1
    exact ⟨p, xs, rfl, .inl ⟨SqL.of s1, g.newT (by simp) R r1⟩⟩
  · obtain ⟨p, xs, e1, s1, r1, t1⟩ := wa.tupP
    subst e1
    exact ⟨p, xs, rfl, .inr ⟨s1, g.done R (Rp.tup s1 r1 t1)⟩⟩
  · exact g.stop'.elim
def intD : D → Mo D
  | .int i => ret (.int i)
  | .bl b => ret (.int (if b then 1 else 0))
  | _ => stop
theorem o_int : OpC c ma .s (fun xs H Q => (∃ i, xs = [.int i] ∧ Q (.int i) H) ∨ ∃ k, xs = [.bl k] ∧ Q (.int (if k then 1 else 0)) H) intD := by
  intro own env n σ H0 H x a Q R ra g
  have wa := R.weak ra
  unfold intD at g
  split at g
  · rw [wa.int']
    exact .inl ⟨_, rfl, g.done R (Rp.int _)⟩
  · rw [wa.bl']
    exact .inr ⟨_, rfl, g.done R (Rp.int _)⟩
  · exact g.stop'.elim
def absD : D → Mo D
  | .int i => ret (.int (if i < 0 then -i else i))
  | _ => stop
theorem o_abs : OpC c ma .s (fun xs H Q => ∃ i, xs = [.int i] ∧ Q (.int (if i < 0 then -i else i)) H) absD := by
  intro own env n σ H0 H x a Q R ra g
  have wa := R.weak ra
  unfold absD at g
  split at g
  · rw [wa.int']
    exact ⟨_, rfl, g.done R (Rp.int _)⟩
  · exact g.stop'.elim
def strD : D → Mo D
  | .int i => need (0 ≤ i ∧ i < 10000000000) (ret (.str (toString i)))
  | _ => stop
theorem bools_of : ∀ {l : List D} {xs : List V} {K : PySem.W.Frag} {dk : DkT} {H : Hp} {A : Addr → Prop} {bs : List Bool}, RpL K dk H A xs l → l = bs.map D.bl → xs = bs.map V.bl
  | _, _, _, _, _, _, [], .nil, _ => rfl
  | _, _, _, _, _, _, [], .cons _ _, e => by cases e
  | _, _, _, _, _, _, b :: bs, .nil, e => by cases e
  | _, _, _, _, _, _, b :: bs, .cons r t, e => by
    rw [List.map_cons] at e
    injection e with e1 e2
    subst e1
    rw [List.map_cons, bools_of t e2]
    cases r
    rfl
def bools : List D → Option (List Bool)
  | [] => some []
  | .bl b :: l => (bools l).map (b :: ·)
  | _ => none
theorem bools_eq : ∀ {l : List D} {bs : List Bool}, bools l = some bs → l = bs.map D.bl
  | [], bs, h => by cases h; rfl
  | .bl b :: l, bs, h => by
    simp only [bools] at h
    cases e : bools l with
    | none => rw [e] at h; cases h
    | some cs =>
      rw [e] at h
      cases h
      rw [List.map_cons, ← bools_eq e]
  | .non :: _, _, h => by simp [bools] at h
  | .int _ :: _, _, h => by simp [bools] at h
  | .str _ :: _, _, h => by simp [bools] at h
  | .tup _ :: _, _, h => by simp [bools] at h
  | .lst _ :: _, _, h => by simp [bools] at h
  | .dct _ _ :: _, _, h => by simp [bools] at h
  | .deck :: _, _, h => by simp [bools] at h
  | .obj _ :: _, _, h => by simp [bools] at h
theorem bools_map (bs : List Bool) : bools (bs.map D.bl) = some bs := by
  induction bs with
  | nil => rfl
  | cons b bs ih => simp [bools, ih]
def allD : D → Mo D
  | .lst l => match bools l with | some bs => ret (.bl (bs.all id)) | none => stop
  | _ => stop
def anyD : D → Mo D
  | .lst l => match bools l with | some bs => ret (.bl (bs.any id)) | none => stop
  | _ => stop
theorem o_all : OpC c ma .s (rAll c.K) allD := by
  intro own env n σ H0 H x a Q R ra g
  have wa := R.weak ra
  unfold allD at g
  split at g
  · split at g
    · rename_i hb
      obtain ⟨p, xs, e1, n1, s1, r1⟩ := wa
      subst e1
      have e2 := bools_of r1 (bools_eq hb)
      subst e2
      exact ⟨p, _, rfl, SqL.of s1, g.done R (Rp.bl _)⟩
    · exact g.stop'.elim
  · exact g.stop'.elim
theorem o_any : OpC c ma .s (rAny c.K) anyD := by
  intro own env n σ H0 H x a Q R ra g
  have wa := R.weak ra
  unfold anyD at g
  split at g
  · split at g
    · rename_i hb
      obtain ⟨p, xs, e1, n1, s1, r1⟩ := wa
      subst e1
      have e2 := bools_of r1 (bools_eq hb)
      subst e2
      exact ⟨p, _, rfl, SqL.of s1, g.done R (Rp.bl _)⟩
    · exact g.stop'.elim
  · exact g.stop'.elim
end
end DL

/-! part seven: tests, arguments, calls of defs, what a def promises -/
namespace DL
open PySem PySem.Spec L2

/-! ### tests -/
def tT (c : Cn) (t : DE) : TT := fun σ H Q => ∃ own env n, ER c own env n σ H ∧ ∃ Qd, t env n Qd (c.Xq env) ∧ ∀ d n' H', Qd d n' → Ext c.dk H H' → VI c.K c.dk n' H' → ∃ b, d = .bl b ∧ Q b H'
section
variable {X : Cx} {c : Cn} {ta tb tc : DE} {a b e : Expr} {pos : Pos}
/-- both ways of a test -/
def iteM (d : D) (m1 m2 : Mo D) : Mo D := match d with
  | .bl true => m1
  | .bl false => m2
  | _ => stop
def andT (ta tb : DE) : DE := fun env => bnd (ta env) fun d => iteM d (bnd (tb env) fun e => iteM e (ret (.bl true)) (ret (.bl false))) (ret (.bl false))
def orT (ta tb : DE) : DE := fun env => bnd (ta env) fun d => iteM d (ret (.bl true)) (bnd (tb env) fun e => iteM e (ret (.bl true)) (ret (.bl false)))
def notT (ta : DE) : DE := fun env => bnd (ta env) fun d => iteM d (ret (.bl false)) (ret (.bl true))
def ifT (tc ta tb : DE) : DE := fun env => bnd (tc env) fun d => iteM d (ta env) (tb env)
theorem pt_of (h : PE X e (tX c .w ta)) (he : ∀ whole, isTrue e X.env whole = (do let v ← whole; standAt e.pos; holding [v] (truthy v))) : PT X e (tT c ta) := by
  refine PT.imp (pt_val h he) fun σ H Q q => ?_
  obtain ⟨own, env, n, R, Qd, h1, h2⟩ := q
  refine ⟨own, env, n, R, Qd, h1, fun d n' v H' q e vi r => ?_⟩
  obtain ⟨b, e1, q1⟩ := h2 d n' H' q e vi
  subst e1
  exact ⟨b, Rw.bl' r, q1⟩
theorem iteM_cases {d : D} {m1 m2 : Mo D} {n : Nat} {Q : D → Nat → Prop} {Xq : XD → Nat → Prop} (h : iteM d m1 m2 n Q Xq) : (d = .bl true ∧ m1 n Q Xq) ∨ (d = .bl false ∧ m2 n Q Xq) := by
  unfold iteM at h
  split at h
  · exact .inl ⟨rfl, h⟩
  · exact .inr ⟨rfl, h⟩
  · exact h.elim
theorem pt_and' (h1 : PT X a (tT c ta)) (h2 : PT X b (tT c tb)) : PW X (.BoolOp .And [a, b] pos) (tT c (andT ta tb)) := by
  refine ⟨fun wh pins s σ H Q I q => (pw_and h1 (pw_and1 h2)).run wh pins s σ H Q I ?_⟩
  obtain ⟨own, env, n, R, Qd, g1, g2⟩ := q
  refine ⟨own, env, n, R, _, g1, fun d n' H' q e vi => ?_⟩
  rcases iteM_cases q with ⟨rfl, q⟩ | ⟨rfl, q⟩
  · refine ⟨true, rfl, ?_⟩
    show tT c tb σ H' Q
    refine ⟨own, env, n', R.go e vi, _, q, fun d2 n2 H2 q2 e2 vi2 => ?_⟩
    rcases iteM_cases q2 with ⟨rfl, q2⟩ | ⟨rfl, q2⟩
    · obtain ⟨b, eb, qb⟩ := g2 _ n2 H2 q2 (e.trans e2) vi2
      cases eb
      exact ⟨true, rfl, qb⟩
    · obtain ⟨b, eb, qb⟩ := g2 _ n2 H2 q2 (e.trans e2) vi2
      cases eb
      exact ⟨false, rfl, qb⟩
  · obtain ⟨b, eb, qb⟩ := g2 _ n' H' q e vi
    cases eb
    exact ⟨false, rfl, qb⟩
/-- the first and the rest -/
theorem pt_andR {rest : List Expr} (h1 : PT X a (tT c ta)) (h2 : PW X (.BoolOp .And (b :: rest) pos) (tT c tb)) : PW X (.BoolOp .And (a :: b :: rest) pos) (tT c (andT ta tb)) := by
  refine ⟨fun wh pins s σ H Q I q => (pw_and h1 h2).run wh pins s σ H Q I ?_⟩
  obtain ⟨own, env, n, R, Qd, g1, g2⟩ := q
  refine ⟨own, env, n, R, _, g1, fun d n' H' q e vi => ?_⟩
  rcases iteM_cases q with ⟨rfl, q⟩ | ⟨rfl, q⟩
  · refine ⟨true, rfl, ?_⟩
    show tT c tb σ H' Q
    refine ⟨own, env, n', R.go e vi, _, q, fun d2 n2 H2 q2 e2 vi2 => ?_⟩
    rcases iteM_cases q2 with ⟨rfl, q2⟩ | ⟨rfl, q2⟩
    · obtain ⟨b, eb, qb⟩ := g2 _ n2 H2 q2 (e.trans e2) vi2
      cases eb
      exact ⟨true, rfl, qb⟩
    · obtain ⟨b, eb, qb⟩ := g2 _ n2 H2 q2 (e.trans e2) vi2
      cases eb
      exact ⟨false, rfl, qb⟩
  · obtain ⟨b, eb, qb⟩ := g2 _ n' H' q e vi
    cases eb
    exact ⟨false, rfl, qb⟩
theorem pt_orR {rest : List Expr} (h1 : PT X a (tT c ta)) (h2 : PW X (.BoolOp .Or (b :: rest) pos) (tT c tb)) : PW X (.BoolOp .Or (a :: b :: rest) pos) (tT c (orT ta tb)) := by
  refine ⟨fun wh pins s σ H Q I q => (pw_or h1 h2).run wh pins s σ H Q I ?_⟩
  obtain ⟨own, env, n, R, Qd, g1, g2⟩ := q
  refine ⟨own, env, n, R, _, g1, fun d n' H' q e vi => ?_⟩
  rcases iteM_cases q with ⟨rfl, q⟩ | ⟨rfl, q⟩
  · obtain ⟨b, eb, qb⟩ := g2 _ n' H' q e vi
    cases eb
    exact ⟨true, rfl, qb⟩
  · refine ⟨false, rfl, ?_⟩
    show tT c tb σ H' Q
    refine ⟨own, env, n', R.go e vi, _, q, fun d2 n2 H2 q2 e2 vi2 => ?_⟩
    rcases iteM_cases q2 with ⟨rfl, q2⟩ | ⟨rfl, q2⟩
    · obtain ⟨b, eb, qb⟩ := g2 _ n2 H2 q2 (e.trans e2) vi2
      cases eb
      exact ⟨true, rfl, qb⟩
    · obtain ⟨b, eb, qb⟩ := g2 _ n2 H2 q2 (e.trans e2) vi2
      cases eb
      exact ⟨false, rfl, qb⟩
theorem pt_not' (h1 : PT X a (tT c ta)) : PT X (.UnaryOp .Not a pos) (tT c (notT ta)) := by
  refine PT.imp (pt_not h1) fun σ H Q q => ?_
  obtain ⟨own, env, n, R, Qd, g1, g2⟩ := q
  refine ⟨own, env, n, R, _, g1, fun d n' H' q e vi => ?_⟩
  rcases iteM_cases q with ⟨rfl, q⟩ | ⟨rfl, q⟩
  · obtain ⟨b, eb, qb⟩ := g2 _ n' H' q e vi
    cases eb
    exact ⟨true, rfl, qb⟩
  · obtain ⟨b, eb, qb⟩ := g2 _ n' H' q e vi
    cases eb
    exact ⟨false, rfl, qb⟩
/-- one comparison, as a test -/
theorem pt_cmp' {op : CmpOp} {r : R2} {ma mb : Md} {f : D → D → Mo D} (ho : OpR X (compareOp op) r) (h : Op2 c ma mb .s r f) (ha : PE X a (tX c ma ta)) (hb : PE X b (tX c mb tb)) (hm : behindInMarks op b = false) :
    PT X (.Compare a [op] [b] pos) (tT c (bin2 ta tb f)) := by
  refine PT.imp (pt_cmpR ho ha hb hm) fun σ H Q q => ?_
  obtain ⟨own, env, n, R, Qd, g1, g2⟩ := q
  refine op2_tX (md := .s) h ⟨own, env, n, R, Qd, g1, fun d n' v H' q e vi r => ?_⟩
  obtain ⟨b, eb, qb⟩ := g2 d n' H' q e vi
  subst eb
  cases r
  exact ⟨b, rfl, qb⟩
theorem pe_cmp' {op : CmpOp} {r : R2} {ma mb : Md} {f : D → D → Mo D} (ho : OpR X (compareOp op) r) (h : Op2 c ma mb .s r f) (ha : PE X a (tX c ma ta)) (hb : PE X b (tX c mb tb)) (hm : behindInMarks op b = false) :
    PE X (.Compare a [op] [b] pos) (tX c .s (bin2 ta tb f)) := PE.imp (pe_cmpR ho ha hb hm) fun σ H Q q => op2_tX h q
/-! as values -/
theorem tX_iteB {σ : St} {H : Hp} {Q : VK} {own : Nat → Option Addr} {env : Env'} {n : Nat} (R : ER c own env n σ H) {Qd : D → Nat → Prop} (q : bnd (tb env) (fun e => iteM e (ret (.bl true)) (ret (.bl false))) n Qd (c.Xq env))
    (g : ∀ d n' v H', Qd d n' → Ext c.dk H H' → VI c.K c.dk n' H' → Rm c (AV c own) H H' .s v d → Q v H') : tX c .w tb σ H Q := by
  refine ⟨own, env, n, R, _, q, fun d n' v H' q e vi r => ?_⟩
  rcases iteM_cases q with ⟨rfl, q⟩ | ⟨rfl, q⟩
  · rw [Rw.bl' r]
    exact g _ n' _ H' q e vi (Rp.bl _)
  · rw [Rw.bl' r]
    exact g _ n' _ H' q e vi (Rp.bl _)
theorem pe_and' {rest : List Expr} (h1 : PE X a (tX c .w ta)) (h2 : PE X (.BoolOp .And (b :: rest) pos) (tX c .w tb)) : PE X (.BoolOp .And (a :: b :: rest) pos) (tX c .s (andT ta tb)) := by
  refine PE.imp (pe_and h1 h2) fun σ H Q q => ?_
  obtain ⟨own, env, n, R, Qd, g1, g2⟩ := q
  refine ⟨own, env, n, R, _, g1, fun d n' v H' q e vi r => ?_⟩
  rcases iteM_cases q with ⟨rfl, q⟩ | ⟨rfl, q⟩
  · refine ⟨true, Rw.bl' r, ?_⟩
    show tX c .w tb σ H' Q
    exact tX_iteB (R.go e vi) q fun d2 n2 v2 H2 q2 e2 vi2 r2 => g2 d2 n2 v2 H2 q2 (e.trans e2) vi2 r2
  · exact ⟨false, Rw.bl' r, g2 _ n' _ H' q e vi (Rp.bl _)⟩
theorem pe_or' {rest : List Expr} (h1 : PE X a (tX c .w ta)) (h2 : PE X (.BoolOp .Or (b :: rest) pos) (tX c .w tb)) : PE X (.BoolOp .Or (a :: b :: rest) pos) (tX c .s (orT ta tb)) := by
  refine PE.imp (pe_or h1 h2) fun σ H Q q => ?_
  obtain ⟨own, env, n, R, Qd, g1, g2⟩ := q
  refine ⟨own, env, n, R, _, g1, fun d n' v H' q e vi r => ?_⟩
  rcases iteM_cases q with ⟨rfl, q⟩ | ⟨rfl, q⟩
  · exact ⟨true, Rw.bl' r, g2 _ n' _ H' q e vi (Rp.bl _)⟩
  · refine ⟨false, Rw.bl' r, ?_⟩
    show tX c .w tb σ H' Q
    exact tX_iteB (R.go e vi) q fun d2 n2 v2 H2 q2 e2 vi2 r2 => g2 d2 n2 v2 H2 q2 (e.trans e2) vi2 r2
theorem pe_not' (h1 : PE X a (tX c .w ta)) : PE X (.UnaryOp .Not a pos) (tX c .s (notT ta)) := by
  refine PE.imp (pe_not h1) fun σ H Q q => ?_
  obtain ⟨own, env, n, R, Qd, g1, g2⟩ := q
  refine ⟨own, env, n, R, _, g1, fun d n' v H' q e vi r => ?_⟩
  rcases iteM_cases q with ⟨rfl, q⟩ | ⟨rfl, q⟩
  · exact ⟨true, Rw.bl' r, g2 _ n' _ H' q e vi (Rp.bl _)⟩
  · exact ⟨false, Rw.bl' r, g2 _ n' _ H' q e vi (Rp.bl _)⟩
theorem pe_if' {md : Md} {cc : Expr} (hc : PT X cc (tT c tc)) (ha : PE X a (tX c md ta)) (hb : PE X b (tX c md tb)) : PE X (.IfExp cc a b pos) (tX c md (ifT tc ta tb)) := by
  refine PE.imp (pe_ifExp hc ha hb) fun σ H Q q => ?_
  obtain ⟨own, env, n, R, Qd, g1, g2⟩ := q
  refine ⟨own, env, n, R, _, g1, fun d n' H' q e vi => ?_⟩
  rcases iteM_cases q with ⟨rfl, q⟩ | ⟨rfl, q⟩
  · refine ⟨true, rfl, ?_⟩
    show tX c md ta σ H' Q
    exact ⟨own, env, n', R.go e vi, Qd, q, fun d2 n2 v2 H2 q2 e2 vi2 r2 => g2 d2 n2 v2 H2 q2 (e.trans e2) vi2 (r2.back vi e)⟩
  · refine ⟨false, rfl, ?_⟩
    show tX c md tb σ H' Q
    exact ⟨own, env, n', R.go e vi, Qd, q, fun d2 n2 v2 H2 q2 e2 vi2 r2 => g2 d2 n2 v2 H2 q2 (e.trans e2) vi2 (r2.back vi e)⟩
end

/-! ### arguments -/
abbrev DA := Env' → Mo (List D)
def nilA : DA := fun _ => ret []
def consA (t : DE) (u : DA) : DA := fun env => bnd (t env) fun d => bnd (u env) fun ds => ret (d :: ds)
inductive RwL (K : PySem.W.Frag) (dk : DkT) (H : Hp) (A : Addr → Prop) : List V → List D → Prop
  | nil : RwL K dk H A [] []
  | cons {v : V} {vs : List V} {d : D} {ds : List D} : Rw K dk H A v d → RwL K dk H A vs ds → RwL K dk H A (v :: vs) (d :: ds)
def RmL (c : Cn) (A : Addr → Prop) (H : Hp) (m : Md) (vs : List V) (ds : List D) : Prop := match m with
  | .w => RwL c.K c.dk H A vs ds
  | _ => RpL c.K c.dk H A vs ds
def tA (c : Cn) (md : Md) (k : Nat) (t : DA) : TA := fun σ H Q => ∃ own env n, ER c own env n σ H ∧ ∃ Qd, t env n Qd (c.Xq env) ∧ ∀ ds n' vs H', Qd ds n' → Ext c.dk H H' → VI c.K c.dk n' H' → RmL c (AV c own) H' md vs ds → vs.length = k → Q vs H'
section
variable {X : Cx} {c : Cn} {t : DE} {u : DA} {e : Expr} {es : List Expr} {pos : Pos} {k : Nat}
theorem pa_nil' {md : Md} : PA X [] (tA c md 0 nilA) := by
  refine PA.imp pa_nil fun σ H Q q => ?_
  obtain ⟨own, env, n, R, Qd, g1, g2⟩ := q
  refine g2 [] n [] H g1 Ext.refl R.vi ?_ rfl
  cases md
  · exact .nil
  · exact .nil
  · exact .nil
theorem pa_consS (h1 : PE X e (tX c .s t)) (h2 : PA X es (tA c .s k u)) (hs : starEach (e :: es) X.env = (false, eval e X.env) :: starEach es X.env) : PA X (e :: es) (tA c .s (k + 1) (consA t u)) := by
  refine PA.imp (pa_cons h1 h2 hs) fun σ H Q q => ?_
  obtain ⟨own, env, n, R, Qd, g1, g2⟩ := q
  refine ⟨own, env, n, R, _, g1, fun d n1 v H1 q e vi r => ?_⟩
  refine ⟨own, env, n1, R.go e vi, _, q, fun ds n2 vs H2 q2 e2 vi2 r2 hk => ?_⟩
  exact g2 _ n2 _ H2 q2 (e.trans e2) vi2 (RpL.cons (Rp.ext vi (fun _ z => AV.deck z) e2 r) r2) (by simp [hk])
theorem pa_consW (h1 : PE X e (tX c .w t)) (h2 : PA X es (tA c .w k u)) (hs : starEach (e :: es) X.env = (false, eval e X.env) :: starEach es X.env) : PA X (e :: es) (tA c .w (k + 1) (consA t u)) := by
  refine PA.imp (pa_cons h1 h2 hs) fun σ H Q q => ?_
  obtain ⟨own, env, n, R, Qd, g1, g2⟩ := q
  refine ⟨own, env, n, R, _, g1, fun d n1 v H1 q e vi r => ?_⟩
  refine ⟨own, env, n1, R.go e vi, _, q, fun ds n2 vs H2 q2 e2 vi2 r2 hk => ?_⟩
  exact g2 _ n2 _ H2 q2 (e.trans e2) vi2 (RwL.cons (Rw.ext vi (fun _ z => AV.deck z) e2 r) r2) (by simp [hk])
/-- displays -/
def tupT (u : DA) : DE := fun env => bnd (u env) fun ds => need (ds.length ≤ sizeLine) (ret (.tup ds))
def lstT (u : DA) : DE := fun env => bnd (u env) fun ds => need (ds.length ≤ sizeLine) (ret (.lst ds))
theorem pe_tup' {x1} (h : PA X es (tA c .s k u)) : PE X (.Tuple es x1 pos) (tX c .s (tupT u)) := by
  refine PE.imp (pe_tupF h) fun σ H Q q => ?_
  obtain ⟨own, env, n, R, Qd, g1, g2⟩ := q
  refine ⟨own, env, n, R, _, g1, fun ds n1 vs H1 q e vi r _ => ?_⟩
  obtain ⟨hz, q⟩ := q
  have R1 := R.go e vi
  refine ⟨by rw [RpL.length r]; exact hz, ?_⟩
  exact Go.newT (md := .s) (by simp) R1 ⟨Qd, q, fun d2 n2 v2 H2 q2 e2 vi2 r2 => g2 d2 n2 v2 H2 q2 (e.trans e2) vi2 r2⟩ r
theorem pe_lst' (h : PA X es (tA c .s k u)) : PE X (.List es pos) (tX c .f (lstT u)) := by
  refine PE.imp (pe_lst h) fun σ H Q q => ?_
  obtain ⟨own, env, n, R, Qd, g1, g2⟩ := q
  refine ⟨own, env, n, R, _, g1, fun ds n1 vs H1 q e vi r _ => ?_⟩
  obtain ⟨hz, q⟩ := q
  have R1 := R.go e vi
  refine ⟨by rw [RpL.length r]; exact hz, fun p hp => ?_⟩
  exact Go.newL (md := .f) R1 ⟨Qd, q, fun d2 n2 v2 H2 q2 e2 vi2 r2 => g2 d2 n2 v2 H2 q2 (e.trans e2) vi2 (r2.back vi e)⟩ hp r
end

/-! ### what a def promises -/
/-- an error stands so -/
def XRep (K : PySem.W.Frag) (mg : Str → Option Value) (dk : DkT) (H : Hp) (A : Addr → Prop) (xd : XD) (cls : Value) (od : Option Addr) : Prop :=
  ∃ C, mg xd.cls = some (.ref C) ∧ cls = .ref C ∧ ((xd.fs = [] ∧ od = none) ∨ ∃ d fs, od = some d ∧ H d = some (.xd fs) ∧ fs.map (·.1) = xd.fs.map (·.1) ∧ RpL K dk H A (fs.map (·.2)) (xd.fs.map (·.2)))
abbrev MD := List D → Mo D
def spD (K : PySem.W.Frag) (mg : Str → Option Value) (np : Nat) (m : MD) : Sp := fun vs H Q E => vs.length = np ∧
  ∃ (ds : List D) (A : Addr → Prop) (dk : DkT) (n : Nat), RpL K dk H A vs ds ∧ (∀ a, A a → H a ≠ none) ∧ (∀ a, IsDk dk a → A a) ∧ VI K dk n H ∧ ∃ Qd Xd, m ds n Qd Xd ∧ (∀ xd n', Xd xd n' → lfL (xd.fs.map (·.2)) = true) ∧
    (∀ d n' v H', Qd d n' → Ext dk H H' → VI K dk n' H' → Rp K dk H' A v d → Q v H') ∧ (∀ xd n' cls od H', Xd xd n' → Ext dk H H' → VI K dk n' H' → XRep K mg dk H' A xd cls od → E cls od H')
/-- a def that is called: its name, how many arguments, what it computes -/
structure FE where
  x : Str
  np : Nat
  m : MD
/-- it stands in the module and keeps its promise -/
def FOk (P : Program) (w : World) (K : PySem.W.Frag) (mg : Str → Option Value) (base : Heap) (k : Nat) (e : FE) : Prop :=
  ∃ (f : Addr) (fd : FuncData) (ps : List Str), mg e.x = some (.ref f) ∧ FnOk P w K mg base (L2.CX P w) k f fd ps (spD K mg e.np e.m) ∧ PySem.W.keepIn K (.ref f) = true ∧ Binds K fd ps []
theorem FOk.mono {P : Program} {w : World} {K : PySem.W.Frag} {mg : Str → Option Value} {base : Heap} {j k : Nat} {e : FE} (h : FOk P w K mg base j e) (hk : j ≤ k) : FOk P w K mg base k e := by
  obtain ⟨f, fd, ps, h1, h2, h3⟩ := h
  exact ⟨f, fd, ps, h1, h2.mono hk, h3⟩
/-- errors reach what is wanted of them -/
def XLink (c : Cn) : Prop := ∀ own env n σ H xd cls od, ER c own env n σ H → XRep c.K c.mg c.dk H (AV c own) xd cls od → c.Xq env xd n → c.W cls od σ H
def callT (m : MD) (u : DA) : DE := fun env => bnd (u env) m
def callW (m : MD) (u : DA) : DE := fun env => bnd (u env) fun ds => bnd (m ds) fun d => need (lf d = true) (ret d)
section
variable {X : Cx} {c : Cn} {k : Nat} {fe : FE} {u : DA} {e : Expr} {es : List Expr} {p pos : Pos}
theorem call_s (hl : XLink c) (hlf : ∀ xd env n, c.Xq env xd n → lfL (xd.fs.map (·.2)) = true) {σ : St} {H : Hp} {Q : VK} (q : tX c .s (callT fe.m u) σ H Q) : tCallS (spD c.K c.mg fe.np fe.m) (WE c.W) (tA c .s fe.np u) σ H Q := by
  obtain ⟨own, env, n, R, Qd, g1, g2⟩ := q
  refine ⟨own, env, n, R, _, g1, fun ds n1 vs H1 q e vi r hlen => ?_⟩
  have R1 := R.go e vi
  have r : RpL c.K c.dk H1 (AV c own) vs ds := r
  refine ⟨hlen, ds, AV c own, c.dk, n1, r, fun a ha z => R1.notAV z ha, fun a z => AV.deck z, vi, Qd, _, q, fun xd n' => hlf xd env n', fun d n2 v H2 q2 e2 vi2 r2 => g2 d n2 v H2 q2 (e.trans e2) vi2 r2, fun xd n2 cls od H2 q2 e2 vi2 r2 => ?_⟩
  exact hl own env n2 σ H2 xd cls od (R1.go e2 vi2) r2 q2
/-- avoiding all but the arguments themselves -/
def AW (c : Cn) (own : Nat → Option Addr) (vs : List V) (a : Addr) : Prop := AV c own a ∧ (IsDk c.dk a ∨ V.ref a ∉ vs)
theorem RwL.length {K : PySem.W.Frag} {dk : DkT} {H : Hp} {A : Addr → Prop} : ∀ {vs : List V} {ds : List D}, RwL K dk H A vs ds → vs.length = ds.length
  | _, _, .nil => rfl
  | _, _, .cons _ t => by simp [RwL.length t]
theorem RwL.rp {own : Nat → Option Addr} {H : Hp} {ws : List V} : ∀ {vs : List V} {ds : List D}, (∀ v ∈ vs, v ∈ ws) → RwL c.K c.dk H (AV c own) vs ds → RpL c.K c.dk H (AW c own ws) vs ds
  | _, _, _, .nil => .nil
  | v :: vs, d :: ds, hs, .cons r t => by
    refine .cons ?_ (RwL.rp (fun x hx => hs x (List.mem_cons_of_mem _ hx)) t)
    have hv := hs v List.mem_cons_self
    have mo : ∀ {xs : List V} {l : List D}, RpL c.K c.dk H (AV c own) xs l → RpL c.K c.dk H (AW c own ws) xs l := fun h => RpL.mono (fun _ _ z => .inr (.inr (.inr z))) (fun _ _ z => z) (fun _ _ _ z => z) (fun _ z => z.1) h
    have ms : Rp c.K c.dk H (AV c own) v d → Rp c.K c.dk H (AW c own ws) v d := fun h => Rp.mono (fun _ _ z => .inr (.inr (.inr z))) (fun _ _ z => z) (fun _ _ _ z => z) (fun _ z => z.1) h
    cases d with
    | lst l =>
      obtain ⟨q, xs, e1, n1, s1, r1⟩ := r
      subst e1
      exact .lst s1 (fun z => z.2.elim (fun z => n1 z) fun z => z hv) (mo r1)
    | dct ks l =>
      obtain ⟨q, kvs, e1, n1, h1, h2, h3⟩ := r
      subst e1
      exact .dct h1 (fun z => z.2.elim (fun z => n1 z) fun z => z hv) h2 (mo h3)
    | non => exact ms r
    | bl _ => exact ms r
    | int _ => exact ms r
    | str _ => exact ms r
    | tup _ => exact ms r
    | deck => exact ms r
    | obj _ => exact ms r
/-- arguments that are own lists or dicts: what comes back has none -/
theorem call_w (hl : XLink c) (hlf : ∀ xd env n, c.Xq env xd n → lfL (xd.fs.map (·.2)) = true) {σ : St} {H : Hp} {Q : VK} (q : tX c .s (callW fe.m u) σ H Q) : tCallS (spD c.K c.mg fe.np fe.m) (WE c.W) (tA c .w fe.np u) σ H Q := by
  obtain ⟨own, env, n, R, Qd, g1, g2⟩ := q
  refine ⟨own, env, n, R, _, g1, fun ds n1 vs H1 q e vi r hlen => ?_⟩
  have R1 := R.go e vi
  refine ⟨hlen, ds, AW c own vs, c.dk, n1, RwL.rp (fun _ z => z) r, fun a ha z => R1.notAV z ha.1, fun a z => ⟨AV.deck z, .inl z⟩, vi, _, _, q, fun xd n' => hlf xd env n', fun d n2 v H2 q2 e2 vi2 r2 => g2 d n2 v H2 q2.2 (e.trans e2) vi2 (Rp.lf q2.1 r2), fun xd n2 cls od H2 q2 e2 vi2 r2 => ?_⟩
  obtain ⟨C, x1, x2, x3⟩ := r2
  refine hl own env n2 σ H2 xd cls od (R1.go e2 vi2) ⟨C, x1, x2, ?_⟩ q2
  rcases x3 with x3 | ⟨d, fs, y1, y2, y3, y4⟩
  · exact .inl x3
  · exact .inr ⟨d, fs, y1, y2, y3, RpL.lf (hlf xd env n2 q2) y4⟩
end
/-- the call of a def -/
theorem pe_def {P : Program} {w : World} {base : Heap} {X : Cx} {c : Cn} {k : Nat} {fe : FE} {u : DA} {e : Expr} {es : List Expr} {p pos : Pos} {md : Md} {t : DE} (hP : X.prog = P) (hw : X.w = w) (hK : X.K = c.K) (hmg : X.mg = c.mg) (hb : X.base = base)
    (F : FOk P w c.K c.mg base k fe) (hr : Room k X.A) (tk : Takes X c.W) (hg : Gl X fe.x) (ha : PA X (e :: es) (tA c md fe.np u)) (hd : (fe.x == ("__debug__" : Str)) = false) (hs : starEach (e :: es) X.env = (false, eval e X.env) :: starEach es X.env)
    (hpl : (backTo pos (starEach es X.env)).any (·.1) = false) (hq : ∀ σ H Q, tX c .s t σ H Q → tCallS (spD c.K c.mg fe.np fe.m) (WE c.W) (tA c md fe.np u) σ H Q) : PE X (.Call (.Name fe.x p) (e :: es) [] pos) (tX c .s t) := by
  subst hP hw hb
  obtain ⟨f, fd, ps, h1, h2, h3, h4⟩ := F
  rw [← hK, ← hmg] at h2
  refine PE.imp (pe_callS (E := WE c.W) h2 hr hg (by rw [hmg]; exact h1) (by rw [hK]; exact h3) (by rw [hK]; exact h4) (fun σ => passAt tk σ) ha hd hs hpl) fun σ H Q q => ?_
  rw [hK, hmg]
  exact hq σ H Q q
end DL

/-! part eight: statements -/
namespace DL
open PySem PySem.Spec L2

/-! ### list.extend of a tuple -/
theorem meets_extT (l : Addr) (xs : Array Value) (n : Nat) (b : Addr) (ys : Array Value) (m : Nat) (dd : Option Addr) (sl : Array (Option Value)) (h0 : ¬(!xs.isEmpty && Builtin.List.listTooLong (xs.size + ys.size)) = true) (h1 : xs.size ≤ sizeLine) (h2 : xs.size + ys.size ≤ sizeLine + 1) :
    Meets (Builtin.«list.extend» ⟨[.ref l, .ref b], []⟩) (fun _ R s => s.heap.get? l = some { cls := .type "list", dict := none, data := .seq xs n, slots := #[] } ∧ s.heap.get? b = some { cls := .type "tuple", dict := dd, data := .seq ys m, slots := sl } ∧
      R (.ok (.ret Value.none)) { s with heap := s.heap.update l (Obj.mapSeq fun x => x ++ ys), toks := s.toks }) :=
  .of_wp fun prog w A R s h => by
    obtain ⟨hp, g, d, tk, os⟩ := s; obtain ⟨hl, hb, h⟩ := h
    have f1 := AutoSeq1.idx_int; have f2 := AutoSeq1.sub_tuple_tuple; have f3 := AutoSeq1.sub_list_list; have f4 := AutoSeq1.sub_tuple_list; have f5 := AutoSeq1.sub_list_tuple
    have hz : (xs ++ ys).size ≤ sizeLine + 1 := by rw [Array.size_append]; exact h2
    wp_walk using (wpAny_updateSeq hl rfl (hz := h1) (_hz' := hz)), AutoSeq1.wpAny_loadPart' hl, AutoSeq1.wpAny_loadPart' hb
    exact ⟨_, rfl, h⟩
def rExtT (K : PySem.W.Frag) : V → List V → Hp → VK → Prop := fun x vs H Q => ∃ l b xs zs, x = .ref l ∧ vs = [.ref b] ∧ H l = some (.lst xs) ∧ SqT K H b zs ∧ xs.length + zs.length ≤ sizeLine ∧ Q .non (upd H l (.lst (xs ++ zs)))
theorem mt_extT {X : Cx} : MtR X "list.extend" (rExtT X.K) := by
  intro pins s σ H x vs v us Q I rx rv h
  obtain ⟨l, b, xs, zs, rfl, rfl, hH, hB, hz, q⟩ := h
  cases rx
  obtain ⟨u, rfl, ru⟩ := rv.one
  cases ru
  obtain ⟨z, its, n, r, hl, e⟩ := I.lstM hH
  obtain ⟨its2, r2, ⟨⟨c2, d2, dt2, sl2⟩, ho2, hc2, n2, hd2⟩, z2⟩ := I.tuple hB
  simp only at hc2 hd2
  subst hc2 hd2
  have l2 := r2.length
  have hsz : its.toArray.size + its2.toArray.size ≤ sizeLine := by rw [List.size_toArray, List.size_toArray]; omega
  have hlong : ¬ (!its.toArray.isEmpty && Builtin.List.listTooLong (its.toArray.size + its2.toArray.size)) = true := by
    rw [notLongL hsz, Bool.and_false]; exact Bool.false_ne_true
  refine call_meets F.slot_list_extend ⟨_, e, rfl⟩ F.entry_list_extend (F.args_list_extend_2 _ _) (meets_extT l its.toArray n b its2.toArray n2 d2 sl2 hlong (by rw [List.size_toArray]; omega) (by omega)) ⟨e, ho2, ?_⟩
  refine ⟨.non, _, I.lset (its' := its ++ its2) hH e (by simp) (r.append r2) ?_, rfl, q⟩
  rw [List.length_append]; omega
def rExtAll (K : PySem.W.Frag) : V → List V → Hp → VK → Prop := fun x vs H Q => rExtend x vs H Q ∨ rExtT K x vs H Q
theorem mt_extAll {X : Cx} : MtR X "list.extend" (rExtAll X.K) := MtR.or mt_extend mt_extT

structure DK where
  nx : Env' → Nat → Prop
  rt : D → Nat → Prop
  bk : Env' → Nat → Prop := fun _ _ => False
  ct : Env' → Nat → Prop := fun _ _ => False
abbrev XQ := Env' → XD → Nat → Prop
abbrev DS := Env' → DK → XQ → Nat → Prop
def OA (c : Cn) (a : Addr) : Prop := c.O a ∨ IsDk c.dk a
structure KL (c : Cn) (k : DK) (D : Ends) : Prop where
  nx : ∀ own env n σ H, k.nx env n → ER c own env n σ H → D.nx σ H
  bk : ∀ own env n σ H, k.bk env n → ER c own env n σ H → D.bk σ H
  ct : ∀ own env n σ H, k.ct env n → ER c own env n σ H → D.ct σ H
  rt : ∀ d n v H, k.rt d n → Ext c.dk c.H0 H → VI c.K c.dk n H → Rp c.K c.dk H (OA c) v d → D.rt v H
def tS (c : Cn) (t : DS) : TS := fun D σ H => ∃ own env n, ER c own env n σ H ∧ ∃ k, KL c k D ∧ t env k c.Xq n

/-! ### what is known of the slots, changed -/
section
variable {c : Cn} {own : Nat → Option Addr} {env : Env'} {n n' : Nat} {σ : St} {H H' : Hp} {i : Nat} {v : V} {d : D} {p : Addr}
theorem get_set {α : Type} {l : List α} {i j : Nat} {x y : α} (h : (l.set i x)[j]? = some y) : (j = i ∧ i < l.length ∧ y = x) ∨ (j ≠ i ∧ l[j]? = some y) := by
  by_cases e : j = i
  · subst e
    by_cases hl : j < l.length
    · rw [List.getElem?_set_self hl] at h
      exact .inl ⟨rfl, hl, (Option.some.inj h).symm⟩
    · rw [List.getElem?_eq_none (by simpa using hl)] at h
      cases h
  · rw [List.getElem?_set_ne (Ne.symm e)] at h
    exact .inr ⟨e, h⟩
theorem set_get {α : Type} {l : List α} {i j : Nat} {x y : α} (h : l[j]? = some y) (e : j ≠ i) : (l.set i x)[j]? = some y := by rw [List.getElem?_set_ne (Ne.symm e)]; exact h
/-- a slot is forgotten -/
def drop1 (own : Nat → Option Addr) (i : Nat) : Nat → Option Addr := fun j => if j = i then none else own j
theorem AV.drop {a : Addr} (h : AV c (drop1 own i) a) : AV c own a := by
  rcases h with h | h | ⟨j, h⟩ | h
  · exact .inl h
  · exact .inr (.inl h)
  · unfold drop1 at h
    split at h
    · cases h
    · exact .inr (.inr (.inl ⟨j, h⟩))
  · exact .inr (.inr (.inr h))
theorem drop_some {j : Nat} (h : drop1 own i j = some p) : j ≠ i ∧ own j = some p := by
  unfold drop1 at h
  split at h
  · cases h
  · exact ⟨by assumption, h⟩
theorem ER.setV (R : ER c own env n σ H) (r : Rp c.K c.dk H (AV c own) v d) : ER c (drop1 own i) (env.set i (.val d)) n (σ.set i (some v)) H where
  vi := R.vi
  ext := R.ext
  vi0 := R.vi0
  lo := R.lo
  val := fun j d' h => by
    rcases get_set h with ⟨rfl, hl, e⟩ | ⟨ne, h⟩
    · cases e
      exact ⟨v, by rw [List.getElem?_set_self (by rw [R.len]; exact hl)], r.less fun _ z => z.drop⟩
    · obtain ⟨w, h1, h2⟩ := R.val j d' h
      exact ⟨w, set_get h1 ne, h2.less fun _ z => z.drop⟩
  ow := fun j d' h => by
    rcases get_set h with ⟨rfl, hl, e⟩ | ⟨ne, h⟩
    · cases e
    · obtain ⟨q, h1, h2, h3⟩ := R.ow j d' h
      exact ⟨q, by unfold drop1; rw [if_neg ne]; exact h1, set_get h2 ne, h3.less fun _ z => z.drop⟩
  onl := fun j q h => by
    obtain ⟨ne, h⟩ := drop_some h
    obtain ⟨⟨d', h1⟩, h2⟩ := R.onl j q h
    exact ⟨⟨d', set_get h1 ne⟩, h2⟩
  inj := fun j k q h1 h2 => R.inj j k q (drop_some h1).2 (drop_some h2).2
  len := by simp [R.len]
  gh := fun q h => (R.gh q h).less fun _ z => z.drop
  hid := fun a h => ⟨(R.hid a h).1, (R.hid a h).2.1, (R.hid a h).2.2.1, fun j z => (R.hid a h).2.2.2 j (drop_some z).2⟩
/-- a slot's value is no longer known -/
theorem ER.setN {w : Option V} (R : ER c own env n σ H) : ER c (drop1 own i) (env.set i .no) n (σ.set i w) H where
  vi := R.vi
  ext := R.ext
  vi0 := R.vi0
  lo := R.lo
  val := fun j d' h => by
    rcases get_set h with ⟨rfl, hl, e⟩ | ⟨ne, h⟩
    · cases e
    · obtain ⟨w, h1, h2⟩ := R.val j d' h
      exact ⟨w, set_get h1 ne, h2.less fun _ z => z.drop⟩
  ow := fun j d' h => by
    rcases get_set h with ⟨rfl, hl, e⟩ | ⟨ne, h⟩
    · cases e
    · obtain ⟨q, h1, h2, h3⟩ := R.ow j d' h
      exact ⟨q, by unfold drop1; rw [if_neg ne]; exact h1, set_get h2 ne, h3.less fun _ z => z.drop⟩
  onl := fun j q h => by
    obtain ⟨ne, h⟩ := drop_some h
    obtain ⟨⟨d', h1⟩, h2⟩ := R.onl j q h
    exact ⟨⟨d', set_get h1 ne⟩, h2⟩
  inj := fun j k q h1 h2 => R.inj j k q (drop_some h1).2 (drop_some h2).2
  len := by simp [R.len]
  gh := fun q h => (R.gh q h).less fun _ z => z.drop
  hid := fun a h => ⟨(R.hid a h).1, (R.hid a h).2.1, (R.hid a h).2.2.1, fun j z => (R.hid a h).2.2.2 j (drop_some z).2⟩
theorem ER.kill1 (R : ER c own env n σ H) : ER c (drop1 own i) (env.set i .no) n σ H := by
  have h := R.setN (i := i) (w := (σ[i]?).join)
  have e : σ.set i (σ[i]?).join = σ := by
    apply List.ext_getElem?
    intro j
    by_cases hj : j = i
    · subst hj
      by_cases hl : j < σ.length
      · rw [List.getElem?_set_self hl, List.getElem?_eq_getElem hl]; rfl
      · rw [List.getElem?_eq_none (by simpa using hl), List.getElem?_eq_none (by simpa using hl)]
    · rw [List.getElem?_set_ne (Ne.symm hj)]
  rw [e] at h
  exact h
/-- a new own list or dict -/
def own1 (own : Nat → Option Addr) (i : Nat) (p : Addr) : Nat → Option Addr := fun j => if j = i then some p else own j
theorem own_some {j : Nat} {q : Addr} (h : own1 own i p j = some q) : (j = i ∧ q = p) ∨ (j ≠ i ∧ own j = some q) := by
  unfold own1 at h
  split at h
  · exact .inl ⟨by assumption, (Option.some.inj h).symm⟩
  · exact .inr ⟨by assumption, h⟩
theorem AV.own1 {a : Addr} (h : AV c (own1 own i p) a) : AV c own a ∨ a = p := by
  rcases h with h | h | ⟨j, h⟩ | h
  · exact .inl (.inl h)
  · exact .inl (.inr (.inl h))
  · rcases own_some h with ⟨_, e⟩ | ⟨_, h⟩
    · exact .inr e
    · exact .inl (.inr (.inr (.inl ⟨j, h⟩)))
  · exact .inl (.inr (.inr (.inr h)))
/-- R: ahead of the expression (p was not tracked); it stands now -/
theorem ER.setO (R : ER c own env n σ H) (hp : H p = none) (e : Ext c.dk H H') (vi : VI c.K c.dk n' H') (nd : ¬ IsDk c.dk p) (r : Ow c.K c.dk H' (fun a => AV c own a ∨ a = p) p d) (hi : i < env.length) :
    ER c (own1 own i p) (env.set i (.own d)) n' (σ.set i (some (.ref p))) H' := by
  have R' := R.go e vi
  have md : ∀ {w : V} {b : D}, Rp c.K c.dk H (AV c own) w b → Rp c.K c.dk H' (AV c (own1 own i p)) w b := fun h =>
    ((h.more hp).ext R.vi (fun _ z => .inl (AV.deck z)) e).less fun _ z => z.own1
  have nH0 : c.H0 p = none := by
    cases q : c.H0 p with
    | none => rfl
    | some o =>
      rcases R.ext p o q with z | z
      · exact absurd z nd
      · rw [hp] at z; cases z
  have pH : H' p ≠ none := by
    obtain ⟨o, h1, _⟩ := r.some_
    rw [h1]
    simp
  have nown : ∀ j q, own j = some q → q ≠ p := fun j q h z => (R.onl j q h).2.2.2 (by rw [z]; exact hp)
  refine ⟨vi, R'.ext, R.vi0, R.lo, fun j d' h => ?_, fun j d' h => ?_, fun j q h => ?_, fun j k q h1 h2 => ?_, by simp [R.len], fun q h => md (R.gh q h), fun a h => ?_⟩
  · rcases get_set h with ⟨rfl, hl, e⟩ | ⟨ne, h⟩
    · cases e
    · obtain ⟨w, h1, h2⟩ := R.val j d' h
      exact ⟨w, set_get h1 ne, md h2⟩
  · rcases get_set h with ⟨rfl, hl, e⟩ | ⟨ne, h⟩
    · cases e
      exact ⟨p, by unfold own1; rw [if_pos rfl], by rw [List.getElem?_set_self (by rw [R.len]; exact hl)], r.less fun _ z => z.own1⟩
    · obtain ⟨q, h1, h2, h3⟩ := R.ow j d' h
      refine ⟨q, by unfold own1; rw [if_neg ne]; exact h1, set_get h2 ne, ?_⟩
      have h4 : Ow c.K c.dk H (fun a => AV c own a ∨ a = p) q d' := by
        cases d' with
        | lst l => obtain ⟨xs, g1, g2⟩ := h3; exact ⟨xs, g1, g2.more hp⟩
        | dct ks l => obtain ⟨kvs, g1, g2, g3⟩ := h3; exact ⟨kvs, g1, g2, g3.more hp⟩
        | _ => exact h3.elim
      exact (h4.ext R.vi (fun _ z => .inl (AV.deck z)) e (R.onl j q h1).2.2.1).less fun _ z => z.own1
  · rcases own_some h with ⟨rfl, rfl⟩ | ⟨ne, h⟩
    · exact ⟨⟨d, by rw [List.getElem?_set_self hi]⟩, nH0, nd, pH⟩
    · obtain ⟨⟨d', h1⟩, h2⟩ := R'.onl j q h
      exact ⟨⟨d', set_get h1 ne⟩, h2⟩
  · rcases own_some h1 with ⟨a1, a2⟩ | ⟨a1, a2⟩
    · rcases own_some h2 with ⟨b1, b2⟩ | ⟨b1, b2⟩
      · rw [a1, b1]
      · exact absurd a2 (nown k _ b2)
    · rcases own_some h2 with ⟨b1, b2⟩ | ⟨b1, b2⟩
      · exact absurd b2 (nown j _ a2)
      · exact R.inj j k q a2 b2
  · have h1 := R'.hid a h
    refine ⟨h1.1, h1.2.1, h1.2.2.1, fun j z => ?_⟩
    rcases own_some z with ⟨_, rfl⟩ | ⟨_, z⟩
    · exact (R.hid a h).2.2.1 hp
    · exact h1.2.2.2 j z
/-- an own list or dict is changed -/
theorem ER.mut {o' : HO} (R : ER c own env n σ H) (hp : own i = some p) (r : Ow c.K c.dk (upd H p o') (AV c own) p d) : ER c own (env.set i (.own d)) n σ (upd H p o') := by
  obtain ⟨⟨d0, hd0⟩, hH0, nd, hH⟩ := R.onl i p hp
  obtain ⟨p', e1, e2, e3⟩ := R.ow i d0 hd0
  rw [hp] at e1
  cases e1
  obtain ⟨o, ho, nt, nf⟩ := e3.some_
  have av : AV c own p := .inr (.inr (.inl ⟨i, hp⟩))
  have md : ∀ {w : V} {b : D}, Rp c.K c.dk H (AV c own) w b → Rp c.K c.dk (upd H p o') (AV c own) w b := fun h => by
    refine h.mono (fun a u q => ?_) (fun a xs q => ?_) (fun a ob u q => ?_) fun _ z => z
    · by_cases z : a = p
      · exact .inl (by rw [z]; exact av)
      · exact .inr (.inr (.inr (by rw [upd_ne z]; exact q)))
    · rw [upd_ne fun z => nt xs (by rw [z, ho] at q; exact Option.some.inj q)]; exact q
    · rw [upd_ne fun z => nf ob u (by rw [z, ho] at q; exact Option.some.inj q)]; exact q
  have mdl : ∀ {w : List V} {b : List D}, RpL c.K c.dk H (AV c own) w b → RpL c.K c.dk (upd H p o') (AV c own) w b := fun h => by
    refine h.mono (fun a u q => ?_) (fun a xs q => ?_) (fun a ob u q => ?_) fun _ z => z
    · by_cases z : a = p
      · exact .inl (by rw [z]; exact av)
      · exact .inr (.inr (.inr (by rw [upd_ne z]; exact q)))
    · rw [upd_ne fun z => nt xs (by rw [z, ho] at q; exact Option.some.inj q)]; exact q
    · rw [upd_ne fun z => nf ob u (by rw [z, ho] at q; exact Option.some.inj q)]; exact q
  have ext : Ext c.dk H (upd H p o') ∨ True := .inr trivial
  have hi : i < env.length := (List.getElem?_eq_some_iff.mp hd0).1
  refine ⟨R.vi.on fun a h => upd_ne fun z => nd (z ▸ h), fun a u q => ?_, R.vi0, R.lo, fun j d' h => ?_, fun j d' h => ?_, fun j q h => ?_, R.inj, by simp [R.len], fun q h => md (R.gh q h), fun a h => ?_⟩
  · rcases R.ext a u q with z | z
    · exact .inl z
    · exact .inr (by rw [upd_ne (fun w => by rw [w, hH0] at q; cases q)]; exact z)
  · rcases get_set h with ⟨rfl, hl, e⟩ | ⟨ne, h⟩
    · cases e
    · obtain ⟨w, h1, h2⟩ := R.val j d' h
      exact ⟨w, h1, md h2⟩
  · rcases get_set h with ⟨rfl, hl, e⟩ | ⟨ne, h⟩
    · cases e
      exact ⟨p, hp, e2, r⟩
    · obtain ⟨q, h1, h2, h3⟩ := R.ow j d' h
      refine ⟨q, h1, h2, ?_⟩
      have nq : q ≠ p := fun z => ne (R.inj j i q h1 (by rw [z]; exact hp))
      cases d' with
      | lst l => obtain ⟨xs, g1, g2⟩ := h3; exact ⟨xs, by rw [upd_ne nq]; exact g1, mdl g2⟩
      | dct ks l => obtain ⟨kvs, g1, g2, g3⟩ := h3; exact ⟨kvs, by rw [upd_ne nq]; exact g1, g2, mdl g3⟩
      | _ => exact h3.elim
  · obtain ⟨⟨d', h1⟩, h2, h3, h4⟩ := R.onl j q h
    refine ⟨?_, h2, h3, fun z => ?_⟩
    · by_cases ne : j = i
      · subst ne; exact ⟨d, by rw [List.getElem?_set_self hi]⟩
      · exact ⟨d', set_get h1 ne⟩
    · by_cases z2 : q = p
      · rw [z2, upd_same] at z; cases z
      · rw [upd_ne z2] at z; exact h4 z
  · obtain ⟨h1, h2, h3, h4⟩ := R.hid a h
    refine ⟨h1, h2, fun z => ?_, h4⟩
    by_cases z2 : a = p
    · rw [z2, upd_same] at z; cases z
    · rw [upd_ne z2] at z; exact h3 z
/-- an own list or dict is a value from now on -/
theorem ER.freeze (R : ER c own env n σ H) (h : env[i]? = some (.own d)) : ER c (drop1 own i) (env.set i (.val d)) n σ H := by
  obtain ⟨p, h1, h2, h3⟩ := R.ow i d h
  have np : ¬ AV c (drop1 own i) p := by
    rintro (z | z | ⟨j, z⟩ | z)
    · exact R.lo p z (R.onl i p h1).2.1
    · exact (R.onl i p h1).2.2.1 z
    · obtain ⟨ne, z⟩ := drop_some z
      exact ne (R.inj j i p z h1)
    · exact (R.hid p z).2.2.2 i h1
  have hi : i < σ.length := (List.getElem?_eq_some_iff.mp h2).1
  have k := (R.kill1 (i := i))
  refine ⟨R.vi, R.ext, R.vi0, R.lo, fun j d' q => ?_, fun j d' q => ?_, fun j q hq => ?_, k.inj, by simp [R.len], k.gh, k.hid⟩
  · rcases get_set q with ⟨rfl, hl, e⟩ | ⟨ne, q⟩
    · cases e
      exact ⟨.ref p, h2, (h3.less fun _ z => z.drop).rp np⟩
    · obtain ⟨w, q1, q2⟩ := R.val j d' q
      exact ⟨w, q1, q2.less fun _ z => z.drop⟩
  · rcases get_set q with ⟨rfl, hl, e⟩ | ⟨ne, q⟩
    · cases e
    · obtain ⟨w, q1, q2, q3⟩ := R.ow j d' q
      exact ⟨w, by unfold drop1; rw [if_neg ne]; exact q1, q2, q3.less fun _ z => z.drop⟩
  · obtain ⟨ne, hq⟩ := drop_some hq
    obtain ⟨⟨d', g1⟩, g2⟩ := R.onl j q hq
    exact ⟨⟨d', set_get g1 ne⟩, g2⟩
end

/-! ### statements -/
def seqS (t u : DS) : DS := fun env k X n => t env { k with nx := fun e n' => u e k X n' } X n
def skipS : DS := fun env k _ n => k.nx env n
def retS (e : DE) : DS := fun env k X n => e env n k.rt (X env)
def retNS : DS := fun env k _ n => k.rt .non n
def asgS (i : Nat) (e : DE) : DS := fun env k X n => e env n (fun d n' => k.nx (env.set i (.val d)) n') (X env)
def asgO (i : Nat) (e : DE) : DS := fun env k X n => e env n (fun d n' => i < env.length ∧ k.nx (env.set i (.own d)) n') (X env)
def iteS (t : DE) (a b : DS) : DS := fun env k X n => t env n (fun d n' => (d = .bl true → a env k X n') ∧ (d = .bl false → b env k X n') ∧ (d = .bl true ∨ d = .bl false)) (X env)
def contS : DS := fun env k _ n => k.ct env n
def brkS : DS := fun env k _ n => k.bk env n
def dropS (e : DE) : DS := fun env k X n => e env n (fun _ n' => k.nx env n') (X env)
def killE : List Nat → Env' → Env'
  | [], env => env
  | i :: is, env => (killE is env).set i .no
def killS (is : List Nat) : DS := fun env k _ n => k.nx (killE is env) n
def frzE (i : Nat) (env : Env') : Env' := match env[i]? with
  | some (.own d) => env.set i (.val d)
  | _ => env
def frzS (i : Nat) : DS := fun env k _ n => k.nx (frzE i env) n
def ownL (env : Env') (i : Nat) : Option (List D) := match env[i]? with
  | some (.own (.lst l)) => some l
  | _ => none
def ownK (env : Env') (i : Nat) : Option (List Key × List D) := match env[i]? with
  | some (.own (.dct ks ds)) => some (ks, ds)
  | _ => none
theorem ownL_eq {env : Env'} {i : Nat} {l : List D} (h : ownL env i = some l) : env[i]? = some (.own (.lst l)) := by
  unfold ownL at h
  split at h
  · cases h; assumption
  · cases h
theorem ownK_eq {env : Env'} {i : Nat} {l : List Key × List D} (h : ownK env i = some l) : env[i]? = some (.own (.dct l.1 l.2)) := by
  unfold ownK at h
  split at h
  · cases h; assumption
  · cases h
def appS (i : Nat) (e : DE) : DS := fun env k X n => match ownL env i with
  | some l => e env n (fun d n' => l.length < sizeLine ∧ k.nx (env.set i (.own (.lst (l ++ [d])))) n') (X env)
  | none => False
def rowD : D → Option (List D)
  | .lst l => some l
  | .tup l => some l
  | _ => none
def extS (i : Nat) (e : DE) : DS := fun env k X n => match ownL env i with
  | some l => e env n (fun d n' => match rowD d with | some r => l.length + r.length ≤ sizeLine ∧ k.nx (env.set i (.own (.lst (l ++ r)))) n' | none => False) (X env)
  | none => False
def putL (ks : List Key) (ds : List D) (k : Key) (v : D) : List Key × List D :=
  if hasK ks k = true then (ks, List.zipWith (fun x d => if x = k then v else d) ks ds) else (ks ++ [k], ds ++ [v])
def putS (i : Nat) (kk v : DE) : DS := fun env k X n => match ownK env i with
  | some l => v env n (fun dv n1 => kk env n1 (fun dk n2 => match keyD dk with
    | some x => l.1.length < sizeLine ∧ k.nx (env.set i (.own (.dct (putL l.1 l.2 x dv).1 (putL l.1 l.2 x dv).2))) n2
    | none => False) (X env)) (X env)
  | none => False
theorem putL_rel {K : PySem.W.Frag} {dk : DkT} {H : Hp} {A : Addr → Prop} {kvs : List (Key × V)} {ds : List D} {k : Key} {v : V} {d : D} (h : RpL K dk H A (kvs.map (·.2)) ds) (r : Rp K dk H A v d) :
    (putK kvs k v).map (·.1) = (putL (kvs.map (·.1)) ds k d).1 ∧ RpL K dk H A ((putK kvs k v).map (·.2)) (putL (kvs.map (·.1)) ds k d).2 := by
  unfold putK putL
  have e : (kvs.any fun kv => decide (kv.1 = k)) = hasK (kvs.map (·.1)) k := by
    unfold hasK
    rw [List.any_map]
    rfl
  rw [e]
  clear e
  split
  · rename_i hh
    clear hh
    constructor
    · rw [List.map_map]
      apply List.map_congr_left
      intro a _
      dsimp only [Function.comp]
      split <;> rfl
    · dsimp only
      induction kvs generalizing ds with
      | nil => cases h; exact .nil
      | cons p kvs ih =>
        cases h with
        | cons r1 t =>
          have ih' := ih t
          simp only [List.map_cons, List.zipWith_cons_cons]
          refine .cons ?_ ih'
          split
          · rename_i z
            exact r
          · exact r1
  · constructor
    · simp
    · rw [List.map_append]
      exact h.append (.cons r .nil)
section
variable {X : Cx} {c : Cn} {st : Stmt} {rest : List Stmt} {t u : DS} {te tk tv : DE} {e : Expr} {pos pos' : Pos} {i : Nat} {x : Str}
theorem s_nil : PSs X [] (tS c skipS) := PSs.imp pss_nil fun D σ H q => by
  obtain ⟨own, env, n, R, k, l, q⟩ := q
  exact l.nx own env n σ H q R
theorem s_cons (h1 : PS X st (tS c t)) (h2 : PSs X rest (tS c u)) : PSs X (st :: rest) (tS c (seqS t u)) := PSs.imp (pss_cons h1 h2) fun D σ H q => by
  obtain ⟨own, env, n, R, k, l, q⟩ := q
  exact ⟨own, env, n, R, { k with nx := fun e n' => u e k c.Xq n' }, ⟨fun own env n σ H q R => ⟨own, env, n, R, k, l, q⟩, l.bk, l.ct, l.rt⟩, q⟩
theorem s_pass : PS X (.Pass pos) (tS c skipS) := PS.imp ps_pass fun D σ H q => by
  obtain ⟨own, env, n, R, k, l, q⟩ := q
  exact l.nx own env n σ H q R
theorem s_cont : PS X (.Continue pos) (tS c contS) := PS.imp ps_continue fun D σ H q => by
  obtain ⟨own, env, n, R, k, l, q⟩ := q
  exact l.ct own env n σ H q R
theorem s_brk : PS X (.Break pos) (tS c brkS) := PS.imp ps_break fun D σ H q => by
  obtain ⟨own, env, n, R, k, l, q⟩ := q
  exact l.bk own env n σ H q R
theorem OA.av {own : Nat → Option Addr} {a : Addr} (h : OA c a) : AV c own a := h.elim .inl fun h => .inr (.inl h)
theorem s_ret (he : PE X e (tX c .s te)) : PS X (.Return (some e) pos) (tS c (retS te)) := PS.imp (ps_ret he) fun D σ H q => by
  obtain ⟨own, env, n, R, k, l, q⟩ := q
  exact ⟨own, env, n, R, _, q, fun d n' v H' q e vi r => l.rt d n' v H' q (R.ext.trans e) vi (Rp.less (fun _ z => z.av) r)⟩
theorem s_retN : PS X (.Return none pos) (tS c retNS) := PS.imp ps_retN fun D σ H q => by
  obtain ⟨own, env, n, R, k, l, q⟩ := q
  exact l.rt .non n .non H q R.ext R.vi .non
theorem asg_ok (h : ∀ D σ H, tS c (asgS i te) D σ H → tAsg (tX c .s te) (gName i) D σ H) : True := trivial
theorem r_asg {D : Ends} {σ : St} {H : Hp} (q : tS c (asgS i te) D σ H) : tAsg (tX c .s te) (gName i) D σ H := by
  obtain ⟨own, env, n, R, k, l, q⟩ := q
  exact ⟨own, env, n, R, _, q, fun d n' v H' q e vi r => l.nx _ _ n' _ H' q ((R.go e vi).setV r)⟩
theorem r_asgO {D : Ends} {σ : St} {H : Hp} (q : tS c (asgO i te) D σ H) : tAsg (tX c .f te) (gName i) D σ H := by
  obtain ⟨own, env, n, R, k, l, q⟩ := q
  refine ⟨own, env, n, R, _, q, fun d n' v H' q e vi r => ?_⟩
  obtain ⟨hi, q⟩ := q
  obtain ⟨p, e1, e2, e3, e4, e5⟩ := r
  subst e1
  exact l.nx _ _ n' _ H' q (R.setO e2 e vi e3 e5 hi)
theorem s_if {cc : Expr} {a b : List Stmt} (hc : PT X cc (tT c te)) (ha : PSs X a (tS c t)) (hb : PSs X b (tS c u)) : PS X (.If cc a b pos) (tS c (iteS te t u)) := PS.imp (ps_if hc ha hb) fun D σ H q => by
  obtain ⟨own, env, n, R, k, l, q⟩ := q
  refine ⟨own, env, n, R, _, q, fun d n' H' q e vi => ?_⟩
  obtain ⟨q1, q2, q3⟩ := q
  rcases q3 with rfl | rfl
  · exact ⟨true, rfl, own, env, n', R.go e vi, k, l, q1 rfl⟩
  · exact ⟨false, rfl, own, env, n', R.go e vi, k, l, q2 rfl⟩
theorem s_drop {md : Md} (he : PE X e (tX c md te)) (hs : swapsWith e none pos.line X.env = pure false) : PS X (.Expr e pos) (tS c (dropS te)) := PS.imp (ps_expr he hs) fun D σ H q => by
  obtain ⟨own, env, n, R, k, l, q⟩ := q
  exact ⟨own, env, n, R, _, q, fun d n' v H' q e vi r => l.nx _ _ n' _ H' q (R.go e vi)⟩
theorem ER.killE {is : List Nat} : ∀ {own : Nat → Option Addr} {env : Env'} {n : Nat} {σ : St} {H : Hp}, ER c own env n σ H → ∃ own', ER c own' (DL.killE is env) n σ H := by
  induction is with
  | nil => intro own env n σ H R; exact ⟨own, R⟩
  | cons i is ih =>
    intro own env n σ H R
    obtain ⟨own', R'⟩ := ih R
    exact ⟨_, R'.kill1⟩
theorem s_kill {is : List Nat} (h : PSs X rest (tS c u)) : PSs X rest (tS c (seqS (killS is) u)) := PSs.imp h fun D σ H q => by
  obtain ⟨own, env, n, R, k, l, q⟩ := q
  obtain ⟨own', R'⟩ := R.killE (is := is)
  exact ⟨own', _, n, R', k, l, q⟩
theorem s_frz (h : PSs X rest (tS c u)) : PSs X rest (tS c (seqS (frzS i) u)) := PSs.imp h fun D σ H q => by
  obtain ⟨own, env, n, R, k, l, q⟩ := q
  have q : u (frzE i env) k c.Xq n := q
  unfold frzE at q
  split at q
  · rename_i d h
    exact ⟨_, _, n, R.freeze h, k, l, q⟩
  · exact ⟨own, _, n, R, k, l, q⟩
/-! own lists -/
theorem ER.put (R : ER c own env n σ H) {l : List D} (h : ownL env i = some l) : ∃ p xs, own i = some p ∧ σ[i]? = some (some (V.ref p)) ∧ H p = some (.lst xs) ∧ xs.length = l.length ∧
    ∀ ws ds, RpL c.K c.dk H (AV c own) ws ds → ER c own (env.set i (.own (.lst (l ++ ds)))) n σ (upd H p (.lst (xs ++ ws))) := by
  obtain ⟨p, h1, h2, xs, h3, h4⟩ := R.ow i _ (ownL_eq h)
  refine ⟨p, xs, h1, h2, h3, h4.length, fun ws ds r => R.mut h1 ⟨xs ++ ws, upd_same, ?_⟩⟩
  have av : AV c own p := .inr (.inr (.inl ⟨i, h1⟩))
  refine (h4.append r).mono (fun a u q => ?_) (fun a xs q => ?_) (fun a ob u q => ?_) fun _ z => z
  · by_cases z : a = p
    · exact .inl (by rw [z]; exact av)
    · exact .inr (.inr (.inr (by rw [upd_ne z]; exact q)))
  · rw [upd_ne fun z => by rw [z, h3] at q; cases q]; exact q
  · rw [upd_ne fun z => by rw [z, h3] at q; cases q]; exact q
theorem r_app {D : Ends} {σ : St} {H : Hp} (q : tS c (appS i te) D σ H) : tDrop (tBM c.K "list" rAppend (tVar i) (tCons (tX c .s te) tNil)) D σ H := by
  obtain ⟨own, env, n, R, k, l, q⟩ := q
  unfold appS at q
  split at q
  · rename_i ll h
    obtain ⟨p, xs, h1, h2, h3, h4, h5⟩ := R.put h
    refine ⟨.ref p, h2, .inl ⟨rfl, xs, SqL.of h3⟩, own, env, n, R, _, q, fun d n' v H' q e vi r => ?_⟩
    have R' := R.go e vi
    obtain ⟨p', xs', g1, g2, g3, g4, g5⟩ := R'.put h
    rw [h1] at g1
    cases g1
    obtain ⟨q1, q2⟩ := q
    exact ⟨p, xs', v, rfl, rfl, g3, by rw [g4]; exact q1, l.nx _ _ n' _ _ q2 (g5 [v] [d] (.cons r .nil))⟩
  · exact q.elim
theorem r_ext {D : Ends} {σ : St} {H : Hp} (q : tS c (extS i te) D σ H) : tDrop (tBM c.K "list" (rExtAll c.K) (tVar i) (tCons (tX c .w te) tNil)) D σ H := by
  obtain ⟨own, env, n, R, k, l, q⟩ := q
  unfold extS at q
  split at q
  · rename_i ll h
    obtain ⟨p, xs, h1, h2, h3, h4, h5⟩ := R.put h
    refine ⟨.ref p, h2, .inl ⟨rfl, xs, SqL.of h3⟩, own, env, n, R, _, q, fun d n' v H' q e vi r => ?_⟩
    have R' := R.go e vi
    obtain ⟨p', xs', g1, g2, g3, g4, g5⟩ := R'.put h
    rw [h1] at g1
    cases g1
    cases d with
    | lst l2 =>
      obtain ⟨q1, q2⟩ := q
      obtain ⟨b, ws, e1, n1, s1, r1⟩ := r
      subst e1
      exact .inl ⟨p, b, xs', ws, rfl, rfl, g3, s1, by rw [g4, r1.length]; exact q1, l.nx _ _ n' _ _ q2 (g5 ws l2 r1)⟩
    | tup l2 =>
      obtain ⟨q1, q2⟩ := q
      obtain ⟨b, ws, e1, s1, r1⟩ := Rw.tup' r
      subst e1
      exact .inr ⟨p, b, xs', ws, rfl, rfl, g3, s1, by rw [g4, r1.length]; exact q1, l.nx _ _ n' _ _ q2 (g5 ws l2 r1)⟩
    | _ => exact q.elim
  · exact q.elim
theorem r_put {D : Ends} {σ : St} {H : Hp} (q : tS c (putS i tk tv) D σ H) : sDPut (tVar i) (tX c .w tk) (tX c .s tv) D σ H := by
  obtain ⟨own, env, n, R, k, l, q⟩ := q
  unfold putS at q
  split at q
  · rename_i ll h
    refine ⟨own, env, n, R, _, q, fun dv n1 v H1 q e1 vi1 r1 => ?_⟩
    have R1 := R.go e1 vi1
    obtain ⟨p, g1, g2, kvs0, g3⟩ := R1.ow i _ (ownK_eq h)
    refine ⟨.ref p, g2, own, env, n1, R1, _, q, fun dk n2 y H2 q e2 vi2 r2 => ?_⟩
    have R2 := R1.go e2 vi2
    split at q
    · rename_i x hx
      obtain ⟨q1, q2⟩ := q
      obtain ⟨p', k1, k2, kvs, k3, k4, k5⟩ := R2.ow i _ (ownK_eq h)
      rw [g1] at k1
      cases k1
      have hl : kvs.length < sizeLine := by
        rw [← List.length_map (f := fun a : Key × V => a.1) (as := kvs), k4]
        exact q1
      refine ⟨p, _, rfl, by rw [kV_key r2 hx]; exact DPut.k k3 hl, ?_⟩
      refine l.nx _ _ n2 _ _ q2 (R2.mut g1 ⟨_, upd_same, ?_⟩)
      have rv := Rp.ext vi1 (fun _ z => AV.deck z) e2 (show Rp c.K c.dk H1 (AV c own) v dv from r1)
      obtain ⟨m1, m2⟩ := putL_rel (k := x) k5 rv
      rw [k4] at m1 m2
      refine ⟨m1, m2.mono (fun a u q => ?_) (fun a xs q => ?_) (fun a ob u q => ?_) fun _ z => z⟩
      · by_cases z : a = p
        · exact .inl (by rw [z]; exact .inr (.inr (.inl ⟨i, g1⟩)))
        · exact .inr (.inr (.inr (by rw [upd_ne z]; exact q)))
      · rw [upd_ne fun z => by rw [z, k3] at q; cases q]; exact q
      · rw [upd_ne fun z => by rw [z, k3] at q; cases q]; exact q
    · exact q.elim
  · exact q.elim
end
end DL

/-! part nine: loops -/
namespace DL
open PySem PySem.Spec L2

/-! ### targets -/
inductive Tg where
  | nm (i : Nat)
  | tp (is : List Nat)
def setAll : List Nat → List D → Env' → Env'
  | i :: is, d :: ds, env => setAll is ds (env.set i (.val d))
  | _, _, env => env
def stT : Tg → D → Env' → Option Env'
  | .nm i, d, env => some (env.set i (.val d))
  | .tp is, .tup ds, env => if ds.length = is.length then some (setAll is ds env) else none
  | _, _, _ => none
def gNms : List Nat → TGs
  | [] => gNil
  | i :: is => gCons (gName i) (gNms is)
def gT (K : PySem.W.Frag) : Tg → TG
  | .nm i => gName i
  | .tp is => gTup K is.length (gNms is)
def slotsT : Tg → List Nat
  | .nm i => [i]
  | .tp is => is
theorem wipe_set {σ : St} {i : Nat} {x : Option V} : ∀ {vs : List Nat}, i ∉ vs → wipe (σ.set i x) vs = (wipe σ vs).set i x
  | [], _ => rfl
  | v :: vs, h => by
    simp only [List.mem_cons, not_or] at h
    show (wipe (σ.set i x) vs).set v none = ((wipe σ vs).set v none).set i x
    rw [wipe_set h.2, List.set_comm _ _ h.1]
theorem wipe_in {σ : St} {i : Nat} {x : Option V} : ∀ {vs : List Nat}, i ∈ vs → wipe (σ.set i x) vs = wipe σ vs
  | [], h => by cases h
  | v :: vs, h => by
    show (wipe (σ.set i x) vs).set v none = (wipe σ vs).set v none
    by_cases hi : i ∈ vs
    · rw [wipe_in hi]
    · rw [wipe_set hi]
      rcases List.mem_cons.mp h with e | h
      · rw [e, List.set_set]
      · exact absurd h hi
section
variable {c : Cn} {own : Nat → Option Addr} {env env1 : Env'} {n : Nat} {σ : St} {H : Hp} {x : V} {d : D}
theorem gNms_ok : ∀ {is : List Nat} {xs : List V} {ds : List D} {own : Nat → Option Addr} {env : Env'} {σ : St} {Q : St → Hp → Prop}, ER c own env n σ H → RpL c.K c.dk H (AV c own) xs ds → ds.length = is.length →
    (∀ own1 σ1, ER c own1 (setAll is ds env) n σ1 H → (∀ vs : List Nat, (∀ i ∈ is, i ∈ vs) → wipe σ1 vs = wipe σ vs) → (∀ i p, own i = some p → i ∉ is → own1 i = some p) → Q σ1 H) → gNms is xs σ H Q
  | [], _, _, own, env, σ, Q, R, .nil, _, h => ⟨rfl, h own σ R (fun _ _ => rfl) fun _ _ z _ => z⟩
  | [], _, _, _, _, _, _, _, .cons _ _, e, _ => by cases e
  | i :: is, _, _, _, _, _, _, _, .nil, e, _ => by cases e
  | i :: is, _, _, own, env, σ, Q, R, .cons (v := v) (vs := vs) (d := d) (ds := ds) r t, e, h => by
    refine ⟨v, vs, rfl, ?_⟩
    have R1 := R.setV (i := i) r
    refine gNms_ok R1 (t.less fun _ z => z.drop) (by simpa using e) fun own1 σ1 R2 hw ho => h own1 σ1 R2 (fun ws hs => ?_) fun j p hj nj => ?_
    · rw [hw ws fun j hj => hs j (List.mem_cons_of_mem _ hj), wipe_in (hs i List.mem_cons_self)]
    · simp only [List.mem_cons, not_or] at nj
      exact ho j p (by unfold drop1; rw [if_neg nj.1]; exact hj) nj.2
theorem gT_ok {tg : Tg} {Q : St → Hp → Prop} (R : ER c own env n σ H) (r : Rp c.K c.dk H (AV c own) x d) (hs : stT tg d env = some env1)
    (h : ∀ own1 σ1, ER c own1 env1 n σ1 H → (∀ vs : List Nat, (∀ i ∈ slotsT tg, i ∈ vs) → wipe σ1 vs = wipe σ vs) → (∀ i p, own i = some p → i ∉ slotsT tg → own1 i = some p) → Q σ1 H) : gT c.K tg x σ H Q := by
  cases tg with
  | nm i =>
    cases hs
    refine h _ _ (R.setV (i := i) r) (fun vs hv => wipe_in (hv i List.mem_cons_self)) fun j p hj nj => ?_
    unfold drop1
    rw [if_neg fun z => nj (by rw [z]; exact List.mem_cons_self)]
    exact hj
  | tp is =>
    cases d with
    | tup ds =>
      simp only [stT] at hs
      split at hs
      · rename_i hl
        cases hs
        cases r with
        | tup hq t =>
          exact ⟨_, _, rfl, hq, by rw [t.length]; exact hl, gNms_ok R t hl h⟩
      · cases hs
    | _ => simp [stT] at hs
end

/-! ### what is walked -/
def Walks (c : Cn) (J : It) (ds : List D) (gh : List (V × D)) : Prop := ∀ (A : Addr → Prop) (i : Nat) (H : Hp), (∀ p ∈ gh, Rp c.K c.dk H A p.1 p.2) →
  (i < ds.length → J.go i H) ∧ (ds.length ≤ i → J.stop i H) ∧ ∀ x H', J.yld i H x H' → (H' = H ∨ ∃ T o, H T = none ∧ H' = upd H T o) ∧ (i < ds.length → ∃ d, ds[i]? = some d ∧ Rp c.K c.dk H' A x d)
abbrev DI := Env' → Mo (List D)
def tI (c : Cn) (t : DI) : TI := fun σ H R => ∃ own env n, ER c own env n σ H ∧ ∃ Qd, t env n Qd (c.Xq env) ∧
  ∀ ds n' J H1 gh, Qd ds n' → Ext c.dk H H1 → VI c.K c.dk n' H1 → (∀ p ∈ gh, Rp c.K c.dk H1 (AV c own) p.1 p.2) → Walks c J ds gh → R J H1
theorem PI.imp {X : Cx} {tg e : Expr} {t u : TI} (h : PI X tg e t) (hi : ∀ σ H R, u σ H R → t σ H R) : PI X tg e u := ⟨fun pins s σ H R I q => h.run pins s σ H R I (hi σ H R q)⟩
/-- lists, tuples, texts -/
def iRow (K : PySem.W.Frag) (tl : TE) : TI := fun σ H R => tl σ H fun x H1 => (∃ a xs, x = .ref a ∧ SqL K H1 a xs ∧ R (Itl K a) H1) ∨ (∃ a xs, x = .ref a ∧ SqT K H1 a xs ∧ R (Itt K a) H1) ∨ ∃ z, x = .str z ∧ R (Its z) H1
theorem pi_row {X : Cx} {tg e : Expr} {te : TE} (he : PE X e te) : PI X tg e (iRow X.K te) := by
  refine ⟨fun pins s σ H R I h => thn (he.run pins s σ H _ I h) fun v s1 ⟨x, H1, I1, r1, q⟩ => ?_⟩
  rcases q with ⟨a, xs, ex, hq, q⟩ | ⟨a, xs, ex, hq, q⟩ | ⟨z, ex, q⟩
  · subst ex; cases r1
    obtain ⟨its, rv, p, hz⟩ := I1.list hq
    exact wpAny_pyIter_list p.isList (pi_one (tk := s1.toks) I1 _ (turn_list a _) ⟨_, Heap.get?_push_size _ rfl, rfl, rfl⟩ q)
  · subst ex; cases r1
    obtain ⟨its, rv, p, hz⟩ := I1.tuple hq
    exact wpAny_pyIter_tuple (show s1.heap.IsTuple a its.toArray from p) (pi_one (tk := s1.toks) I1 _ (turn_tuple a _) ⟨_, Heap.get?_push_size _ rfl, rfl, rfl⟩ q)
  · subst ex; obtain ⟨t, rfl⟩ := r1
    cases ha : z.cps.all (· < 128)
    · exact wpAny_pyIter_wide ha (pi_one (tk := s1.toks) I1 _ (turn_str _ z t "str_iterator" (.inr rfl)) ⟨_, Heap.get?_push_size _ rfl, rfl, rfl⟩ q)
    · exact wpAny_pyIter_ascii ha (pi_one (tk := s1.toks) I1 _ (turn_str _ z t "str_ascii_iterator" (.inl rfl)) ⟨_, Heap.get?_push_size _ rfl, rfl, rfl⟩ q)
def strDs (z : Str) : List D := z.cps.toList.map fun c => .str ⟨#[c]⟩
def itemsD : D → Mo (List D)
  | .lst l => ret l
  | .tup l => ret l
  | .str z => ret (strDs z)
  | _ => stop
def rowI (t : DE) : DI := fun env => bnd (t env) itemsD
section
variable {X : Cx} {c : Cn} {tg e e2 : Expr} {te tf : DE} {p pos tpos : Pos}
theorem walks_list {a : Addr} {ds : List D} : Walks c (Itl c.K a) ds [(.ref a, .lst ds)] := by
  intro A i H h
  have r := h _ List.mem_cons_self
  cases r with
  | lst h1 _ h2 =>
    have hl := h2.length
    refine ⟨fun hi => ?_, fun hi => ⟨_, SqL.of h1, by omega⟩, fun x H' y => ?_⟩
    · obtain ⟨d, hd⟩ : ∃ d, ds[i]? = some d := ⟨ds[i], by simp [hi]⟩
      obtain ⟨v, hv, _⟩ := h2.getD hd
      exact ⟨_, v, SqL.of h1, hv⟩
    · obtain ⟨e, y⟩ := y
      subst e
      refine ⟨.inl rfl, fun hi => ?_⟩
      exact h2.get (y _ (SqL.of h1))
theorem walks_tup {a : Addr} {ds : List D} : Walks c (Itt c.K a) ds [(.ref a, .tup ds)] := by
  intro A i H h
  have r := h _ List.mem_cons_self
  cases r with
  | tup h1 h2 =>
    have hl := h2.length
    refine ⟨fun hi => ?_, fun hi => ⟨_, h1, by omega⟩, fun x H' y => ?_⟩
    · obtain ⟨d, hd⟩ : ∃ d, ds[i]? = some d := ⟨ds[i], by simp [hi]⟩
      obtain ⟨v, hv, _⟩ := h2.getD hd
      exact ⟨_, v, h1, hv⟩
    · obtain ⟨e, y⟩ := y
      subst e
      exact ⟨.inl rfl, fun hi => h2.get (y _ h1)⟩
theorem walks_str {z : Str} (hz : PyData.strOk z = true) : Walks c (Its z) (strDs z) [] := by
  intro A i H h
  have hs : (strDs z).length = z.cps.size := by simp [strDs]
  refine ⟨fun hi => by show i < z.cps.size; omega, fun hi => by show z.cps.size ≤ i; omega, fun x H' y => ?_⟩
  obtain ⟨e, ch, hc, e2⟩ := y
  subst e e2
  have hc' : z.cps.toList[i]? = some ch := by simpa using hc
  refine ⟨.inl rfl, fun hi => ⟨.str ⟨#[ch]⟩, by simp [strDs, hc'], .str (strOk_sub (l := [ch]) hz fun k hk => ?_)⟩⟩
  rw [List.mem_singleton.mp hk]
  exact List.mem_of_getElem? hc'
theorem i_row (hK : X.K = c.K) (he : PE X e (tX c .s te)) : PI X tg e (tI c (rowI te)) := by
  refine PI.imp (pi_row he) fun σ H R q => ?_
  obtain ⟨own, env, n, R0, Qd, g1, g2⟩ := q
  refine ⟨own, env, n, R0, _, g1, fun d n' v H' q e vi r => ?_⟩
  rw [hK]
  cases d with
  | lst l =>
    have r0 : Rp c.K c.dk H' (AV c own) v (.lst l) := r
    cases r with
    | lst h1 h2 h3 => exact .inl ⟨_, _, rfl, SqL.of h1, g2 l n' _ H' _ q e vi (fun p hp => by rw [List.mem_singleton.mp hp]; exact r0) walks_list⟩
  | tup l =>
    have r0 : Rp c.K c.dk H' (AV c own) v (.tup l) := r
    cases r with
    | tup h1 h3 => exact .inr (.inl ⟨_, _, rfl, h1, g2 l n' _ H' _ q e vi (fun p hp => by rw [List.mem_singleton.mp hp]; exact r0) walks_tup⟩)
  | str z =>
    cases r with
    | str h1 => exact .inr (.inr ⟨z, rfl, g2 _ n' _ H' [] q e vi (fun p hp => by cases hp) (walks_str h1)⟩)
  | _ => exact q.elim
/-! ranges -/
def rangeD (lo : Int) (n : Nat) : List D := (List.range n).map fun (i : Nat) => .int (lo + i)
def r1D : D → Mo (List D)
  | .int j => need (j < 4611686018427387904 ∧ -4611686018427387904 ≤ j) (ret (rangeD 0 j.toNat))
  | _ => stop
def r2D : D → D → Mo (List D)
  | .int i, .int j => need ((j < 4611686018427387904 ∧ -4611686018427387904 ≤ j) ∧ (i < 4611686018427387904 ∧ -4611686018427387904 ≤ i)) (ret (rangeD i (j - i).toNat))
  | _, _ => stop
def rng1 (t : DE) : DI := fun env => bnd (t env) r1D
def rng2 (t u : DE) : DI := fun env => bnd (t env) fun a => bnd (u env) fun b => r2D a b
theorem walks_rng {lo : Int} {n : Nat} : Walks c (Itr lo n) (rangeD lo n) [] := by
  intro A i H h
  have hs : (rangeD lo n).length = n := by simp [rangeD]
  refine ⟨fun hi => by show i < n; omega, fun hi => by show n ≤ i; omega, fun x H' y => ?_⟩
  obtain ⟨e, e2⟩ := y
  subst e e2
  refine ⟨.inl rfl, fun hi => ⟨_, ?_, .int _⟩⟩
  have hi' : i < n := by omega
  simp [rangeD, hi']
theorem i_rng1 (hg : Gl X "range") (hm : X.mg "range" = none) (he : PE X e (tX c .w te)) (hs : starEach [e] X.env = [(false, eval e X.env)]) : PI X tg (.Call (.Name "range" p) [e] [] pos) (tI c (rng1 te)) := by
  refine PI.imp (pi_range1 hg hm (pa_cons he pa_nil hs) hs) fun σ H R q => ?_
  obtain ⟨own, env, n, R0, Qd, g1, g2⟩ := q
  refine ⟨own, env, n, R0, _, g1, fun d n' v H' q e vi r => ?_⟩
  cases d with
  | int j =>
    obtain ⟨⟨h1, h2⟩, q⟩ := q
    exact ⟨j, by rw [Rw.int' r], by omega, by omega, g2 _ n' _ H' [] q e vi (fun p hp => by cases hp) walks_rng⟩
  | _ => exact q.elim
theorem i_rng2 (hg : Gl X "range") (hm : X.mg "range" = none) (he : PE X e (tX c .w te)) (hf : PE X e2 (tX c .w tf)) (hs : starEach [e, e2] X.env = [(false, eval e X.env), (false, eval e2 X.env)]) (hs2 : starEach [e2] X.env = [(false, eval e2 X.env)]) :
    PI X tg (.Call (.Name "range" p) [e, e2] [] pos) (tI c (rng2 te tf)) := by
  refine PI.imp (pi_range2 hg hm (pa_cons he (pa_cons hf pa_nil hs2) (by rw [hs, hs2])) hs hs2) fun σ H R q => ?_
  obtain ⟨own, env, n, R0, Qd, g1, g2⟩ := q
  refine ⟨own, env, n, R0, _, g1, fun d n1 v H1 q e vi r => ⟨own, env, n1, R0.go e vi, _, q, fun d2 n2 v2 H2 q2 e2 vi2 r2 => ?_⟩⟩
  cases d with
  | int i =>
    cases d2 with
    | int j =>
      obtain ⟨⟨⟨h1, h2⟩, h3, h4⟩, q2⟩ := q2
      exact ⟨i, j, by rw [Rw.int' r, Rw.int' r2], ⟨by omega, by omega, by omega, by omega⟩, g2 _ n2 _ H2 [] q2 (e.trans e2) vi2 (fun p hp => by cases hp) walks_rng⟩
    | _ => exact q2.elim
  | _ => cases d2 <;> exact q2.elim
/-! pairs -/
/-- not tuples with tuples -/
def zipOk (l m : List D) : Bool := l.all (fun d => !isTupD d) || m.all fun d => !isTupD d
theorem zipOk_no {l m : List D} {i : Nat} {x y : D} (h : zipOk l m = true) (h1 : l[i]? = some x) (h2 : m[i]? = some y) : tupsB [x, y] = false := by
  unfold zipOk at h
  rcases Bool.or_eq_true _ _ ▸ h with h | h
  · have := List.all_eq_true.mp h x (List.mem_of_getElem? h1)
    simp only [Bool.not_eq_true'] at this
    simp [tupsB, this]
  · have := List.all_eq_true.mp h y (List.mem_of_getElem? h2)
    simp only [Bool.not_eq_true'] at this
    simp [tupsB, this]
def zipD (a b : D) : Mo (List D) := match a, b with
  | .lst l, .lst m => need (zipOk l m = true) (ret (List.zipWith (fun x y => .tup [x, y]) l m))
  | .tup l, .tup m => need (zipOk l m = true) (ret (List.zipWith (fun x y => .tup [x, y]) l m))
  | _, _ => stop
def zipI (t u : DE) : DI := fun env => bnd (t env) fun a => bnd (u env) fun b => zipD a b
theorem zip_at {α : Type} {l m : List D} {i : Nat} {x y : D} (h1 : l[i]? = some x) (h2 : m[i]? = some y) : (List.zipWith (fun x y => D.tup [x, y]) l m)[i]? = some (.tup [x, y]) := by
  rw [List.getElem?_zipWith, h1, h2]
theorem walks_zipL {a b : Addr} {l m : List D} (ok : zipOk l m = true) : Walks c (Itz c.K a b) (List.zipWith (fun x y => D.tup [x, y]) l m) [(.ref a, .lst l), (.ref b, .lst m)] := by
  intro A i H h
  have ra := h _ List.mem_cons_self
  have rb := h _ (List.mem_cons_of_mem _ List.mem_cons_self)
  cases ra with
  | lst a1 _ a2 =>
    cases rb with
    | lst b1 _ b2 =>
      have la := a2.length
      have lb := b2.length
      have hz : (List.zipWith (fun x y => D.tup [x, y]) l m).length = min l.length m.length := List.length_zipWith
      refine ⟨fun hi => ?_, fun hi => ⟨_, _, SqL.of a1, SqL.of b1, by omega⟩, fun x H' y => ?_⟩
      · obtain ⟨d1, hd1⟩ : ∃ d, l[i]? = some d := ⟨l[i]'(by omega), by rw [List.getElem?_eq_getElem]⟩
        obtain ⟨d2, hd2⟩ : ∃ d, m[i]? = some d := ⟨m[i]'(by omega), by rw [List.getElem?_eq_getElem]⟩
        obtain ⟨v1, hv1, _⟩ := a2.getD hd1
        obtain ⟨v2, hv2, _⟩ := b2.getD hd2
        exact ⟨_, _, v1, v2, SqL.of a1, SqL.of b1, hv1, hv2⟩
      · obtain ⟨T, x1, x2, e1, nT, e2, y1, y2⟩ := y
        subst e1 e2
        refine ⟨.inr ⟨T, _, nT, rfl⟩, fun hi => ?_⟩
        obtain ⟨d1, g1, r1⟩ := a2.get (y1 _ (SqL.of a1))
        obtain ⟨d2, g2, r2⟩ := b2.get (y2 _ (SqL.of b1))
        refine ⟨.tup [d1, d2], zip_at (α := Unit) g1 g2, .tup (SqT.of upd_same) ?_ fun e => by rw [zipOk_no ok g1 g2] at e; cases e⟩
        have mo : ∀ {v : V} {d : D}, Rp c.K c.dk H A v d → Rp c.K c.dk (upd H T (.tup [x1, x2])) A v d := fun h => h.mono (fun a o q => .inr (.inr (.inr (by rw [upd_ne (ne_of_none q nT)]; exact q)))) (fun a o q => by rw [upd_ne (ne_of_none q nT)]; exact q) (fun a o u q => by rw [upd_ne (ne_of_none q nT)]; exact q) fun _ z => z
        exact .cons (mo r1) (.cons (mo r2) .nil)
theorem walks_zipT {a b : Addr} {l m : List D} (ok : zipOk l m = true) : Walks c (RZ.ItzT c.K a b) (List.zipWith (fun x y => D.tup [x, y]) l m) [(.ref a, .tup l), (.ref b, .tup m)] := by
  intro A i H h
  have ra := h _ List.mem_cons_self
  have rb := h _ (List.mem_cons_of_mem _ List.mem_cons_self)
  cases ra with
  | tup a1 a2 _ =>
    cases rb with
    | tup b1 b2 _ =>
      have la := a2.length
      have lb := b2.length
      have hz : (List.zipWith (fun x y => D.tup [x, y]) l m).length = min l.length m.length := List.length_zipWith
      refine ⟨fun hi => ?_, fun hi => ⟨_, _, a1, b1, by omega⟩, fun x H' y => ?_⟩
      · obtain ⟨d1, hd1⟩ : ∃ d, l[i]? = some d := ⟨l[i]'(by omega), by rw [List.getElem?_eq_getElem]⟩
        obtain ⟨d2, hd2⟩ : ∃ d, m[i]? = some d := ⟨m[i]'(by omega), by rw [List.getElem?_eq_getElem]⟩
        obtain ⟨v1, hv1, _⟩ := a2.getD hd1
        obtain ⟨v2, hv2, _⟩ := b2.getD hd2
        exact ⟨_, _, v1, v2, a1, b1, hv1, hv2⟩
      · obtain ⟨T, x1, x2, e1, nT, e2, y1, y2⟩ := y
        subst e1 e2
        refine ⟨.inr ⟨T, _, nT, rfl⟩, fun hi => ?_⟩
        obtain ⟨d1, g1, r1⟩ := a2.get (y1 _ a1)
        obtain ⟨d2, g2, r2⟩ := b2.get (y2 _ b1)
        refine ⟨.tup [d1, d2], zip_at (α := Unit) g1 g2, .tup (SqT.of upd_same) ?_ fun e => by rw [zipOk_no ok g1 g2] at e; cases e⟩
        have mo : ∀ {v : V} {d : D}, Rp c.K c.dk H A v d → Rp c.K c.dk (upd H T (.tup [x1, x2])) A v d := fun h => h.mono (fun a o q => .inr (.inr (.inr (by rw [upd_ne (ne_of_none q nT)]; exact q)))) (fun a o q => by rw [upd_ne (ne_of_none q nT)]; exact q) (fun a o u q => by rw [upd_ne (ne_of_none q nT)]; exact q) fun _ z => z
        exact .cons (mo r1) (.cons (mo r2) .nil)
theorem i_zip {elts : List Expr} {kk : Nat} (hK : X.K = c.K) (hg : Gl X "zip") (hm : X.mg "zip" = none) (he : PE X e (tX c .s te)) (hf : PE X e2 (tX c .s tf)) (hs : starEach [e, e2] X.env = (false, eval e X.env) :: starEach [e2] X.env) (hs2 : starEach [e2] X.env = [(false, eval e2 X.env)])
    (hpl : (backTo pos (starEach [e2] X.env)).any (·.1) = false) : PI X (.Tuple elts kk tpos) (.Call (.Name "zip" p) [e, e2] [] pos) (tI c (zipI te tf)) := by
  refine PI.imp (RZ.pi_zipA hg hm (pa_cons he (pa_cons hf pa_nil hs2) hs) hs hpl) fun σ H R q => ?_
  obtain ⟨own, env, n, R0, Qd, g1, g2⟩ := q
  refine ⟨own, env, n, R0, _, g1, fun d n1 v H1 q e vi r => ⟨own, env, n1, R0.go e vi, _, q, fun d2 n2 v2 H2 q2 e2 vi2 r2 => ?_⟩⟩
  rw [hK]
  have r := Rp.ext vi (fun _ z => AV.deck z) e2 (show Rp c.K c.dk H1 (AV c own) v d from r)
  have r2 : Rp c.K c.dk H2 (AV c own) v2 d2 := r2
  cases d with
  | lst l =>
    cases d2 with
    | lst m =>
      obtain ⟨zk, q2⟩ := (show zipOk l m = true ∧ _ from q2)
      have w1 := r
      have w2 := r2
      cases r with
      | lst a1 _ a2 =>
        cases r2 with
        | lst b1 _ b2 =>
          exact ⟨_, _, _, _, rfl, .inl ⟨SqL.of a1, SqL.of b1, g2 _ n2 _ H2 _ q2 (e.trans e2) vi2 (fun p hp => by
            rcases List.mem_cons.mp hp with z | z
            · rw [z]; exact w1
            · rw [List.mem_singleton.mp z]; exact w2) (walks_zipL zk)⟩⟩
    | _ => exact q2.elim
  | tup l =>
    cases d2 with
    | tup m =>
      obtain ⟨zk, q2⟩ := (show zipOk l m = true ∧ _ from q2)
      have w1 := r
      have w2 := r2
      cases r with
      | tup a1 a2 _ =>
        cases r2 with
        | tup b1 b2 _ =>
          exact ⟨_, _, _, _, rfl, .inr ⟨a1, b1, g2 _ n2 _ H2 _ q2 (e.trans e2) vi2 (fun p hp => by
            rcases List.mem_cons.mp hp with z | z
            · rw [z]; exact w1
            · rw [List.mem_singleton.mp z]; exact w2) (walks_zipT zk)⟩⟩
    | _ => exact q2.elim
  | _ => cases d2 <;> exact q2.elim
end

/-! ### for -/
/-- with more that is known to stand -/
def Cn.wg (c : Cn) (gh : List (V × D)) (hid : List Addr) : Cn := { c with gh := gh ++ c.gh, hid := hid ++ c.hid }
theorem ER.ofG {c : Cn} {gh : List (V × D)} {own : Nat → Option Addr} {env : Env'} {n : Nat} {σ : St} {H : Hp} (R : ER (c.wg gh []) own env n σ H) : ER c own env n σ H :=
  ⟨R.vi, R.ext, R.vi0, R.lo, R.val, R.ow, R.onl, R.inj, R.len, fun p h => R.gh p (List.mem_append_right _ h), R.hid⟩
theorem ER.toG {c : Cn} {gh : List (V × D)} {own : Nat → Option Addr} {env : Env'} {n : Nat} {σ : St} {H : Hp} (R : ER c own env n σ H) (h : ∀ p ∈ gh, Rp c.K c.dk H (AV c own) p.1 p.2) : ER (c.wg gh []) own env n σ H :=
  ⟨R.vi, R.ext, R.vi0, R.lo, R.val, R.ow, R.onl, R.inj, R.len, fun p hp => (List.mem_append.mp hp).elim (h p) (R.gh p), R.hid⟩
def forL (tg : Tg) (ks : List Nat) (b : DS) : List D → DS
  | [] => fun env k _ n => k.nx env n
  | d :: ds => fun env k X n => match stT tg d env with
    | some env1 => b env1 { k with nx := fun e n' => forL tg ks b ds (killE ks e) k X n', ct := fun e n' => forL tg ks b ds (killE ks e) k X n', bk := fun e n' => k.nx (killE ks e) n' } X n
    | none => False
def forS (tg : Tg) (ks : List Nat) (it : DI) (b : DS) : DS := fun env k X n => it env n (fun ds n' => forL tg ks b ds (killE ks env) k X n') (X env)
theorem ext_step {dk : DkT} {H H' : Hp} (h : H' = H ∨ ∃ T o, H T = none ∧ H' = upd H T o) : Ext dk H H' := by
  rcases h with rfl | ⟨T, o, h, rfl⟩
  · exact Ext.refl
  · exact Ext.new h
theorem vi_step {K : PySem.W.Frag} {dk : DkT} {n : Nat} {H H' : Hp} (vi : VI K dk n H) (h : H' = H ∨ ∃ T o, H T = none ∧ H' = upd H T o) : VI K dk n H' := by
  rcases h with rfl | ⟨T, o, h, rfl⟩
  · exact vi
  · exact vi.new h
theorem s_for {X : Cx} {c : Cn} {tge iter : Expr} {body : List Stmt} {pos : Pos} {tg : Tg} {ks : List Nat} {it : DI} {b : DS} (hK : X.K = c.K) (hp : PassesOwn (model X.prog X.w) X.A X.env X.xe) (hc : X.calm = true) (hi : PI X tge iter (tI c it)) (hg : PG X tge (gT X.K tg))
    (hb : ∀ gh, PSs X body (tS (c.wg gh []) b)) (hs : ∀ x, foldedSetIterable iter X.env x = pure x) : PS X (.For tge iter body [] pos) (tS c (forS tg ks it b)) := by
  have hb' : PSs X body (fun D σ H => ∃ gh, tS (c.wg gh []) b D σ H) := ⟨fun pins s σ H D I h => by
    obtain ⟨gh, h⟩ := h
    exact (hb gh).run pins s σ H D I h⟩
  refine PS.imp (ps_for hp hc hi hg hb' hs) fun D σ H q => ?_
  obtain ⟨own, env, n, R, k, l, q⟩ := q
  refine ⟨own, env, n, R, _, q, fun ds n1 J H1 gh q e vi hgh hw => ?_⟩
  refine ⟨fun i m σ2 H2 => m = ds.length - i ∧ i ≤ ds.length ∧ ∃ own2 env2 n2, ER (c.wg gh []) own2 env2 n2 σ2 H2 ∧ forL tg ks b (ds.drop i) env2 k c.Xq n2, ⟨ds.length, ?_⟩, fun i m σ2 H2 w => ?_⟩
  · obtain ⟨own', R'⟩ := (R.go e vi).killE (is := ks)
    obtain ⟨own'', R''⟩ := ((R.go e vi).toG hgh).killE (is := ks)
    exact ⟨by omega, Nat.zero_le _, own'', _, n1, R'', by simpa using q⟩
  · obtain ⟨hm, hle, own2, env2, n2, R2, q2⟩ := w
    have hgh2 : ∀ p ∈ gh, Rp c.K c.dk H2 (AV c own2) p.1 p.2 := fun p hp => R2.gh p (List.mem_append_left _ hp)
    obtain ⟨w1, w2, w3⟩ := hw (AV c own2) i H2 hgh2
    by_cases hi : i < ds.length
    · refine .inr ⟨w1 hi, fun σ' H' => ∃ own2 env2 n2, ER (c.wg gh []) own2 env2 n2 σ' H' ∧ forL tg ks b (ds.drop (i + 1)) (killE ks env2) k c.Xq n2, fun σ' H' w' => ?_, fun x H' y => ?_⟩
      · obtain ⟨own3, env3, n3, R3, q3⟩ := w'
        obtain ⟨own4, R4⟩ := R3.killE (is := ks)
        exact ⟨ds.length - (i + 1), by omega, rfl, hi, own4, _, n3, R4, q3⟩
      · obtain ⟨st, yd⟩ := w3 x H' y
        obtain ⟨d, hd, rd⟩ := yd hi
        have R3 : ER (c.wg gh []) own2 env2 n2 σ2 H' := R2.go (ext_step st) (vi_step R2.vi st)
        rw [List.drop_eq_getElem_cons hi] at q2
        have ed : ds[i] = d := by
          rw [List.getElem?_eq_getElem hi] at hd
          exact Option.some.inj hd
        rw [ed] at q2
        unfold forL at q2
        split at q2
        · rename_i env1 he
          have gK : gT X.K tg = gT (c.wg gh []).K tg := by rw [hK]; rfl
          rw [gK]
          refine gT_ok (c := c.wg gh []) R3 rd he fun own4 σ4 R4 _ _ => ⟨gh, own4, env1, n2, R4, _, ?_, q2⟩
          refine ⟨fun own5 env5 n5 σ5 H5 q5 R5 => ⟨own5, env5, n5, R5, q5⟩, fun own5 env5 n5 σ5 H5 q5 R5 => ?_, fun own5 env5 n5 σ5 H5 q5 R5 => ⟨own5, env5, n5, R5, q5⟩, l.rt⟩
          obtain ⟨own6, R6⟩ := R5.killE (is := ks)
          exact l.nx own6 _ n5 σ5 H5 q5 R6.ofG
        · exact q2.elim
    · have ei : i = ds.length := by omega
      refine .inl ⟨w2 (by omega), ?_⟩
      rw [ei, List.drop_length] at q2
      exact l.nx own2 env2 n2 σ2 H2 q2 R2.ofG
/-! ### while -/
def whL (t : DE) (ks : List Nat) (b : DS) : Nat → DS
  | 0 => fun _ _ _ _ => False
  | f + 1 => fun env k X n => t env n (fun d n' => (d = .bl true → b env { k with nx := fun e m => whL t ks b f (killE ks e) k X m, ct := fun e m => whL t ks b f (killE ks e) k X m, bk := k.nx } X n') ∧ (d = .bl false → k.nx env n') ∧ (d = .bl true ∨ d = .bl false)) (X env)
def whS (t : DE) (ks : List Nat) (b : DS) : DS := fun env k X n => ∃ f, whL t ks b f (killE ks env) k X n
theorem s_while {X : Cx} {c : Cn} {cc : Expr} {body : List Stmt} {pos : Pos} {ks : List Nat} {t : DE} {b : DS} (hp : PassesOwn (model X.prog X.w) X.A X.env X.xe) (hc : PT X cc (tT c t)) (hb : PSs X body (tS c b)) : PS X (.While cc body [] pos) (tS c (whS t ks b)) := by
  refine PS.imp (ps_while hp hc hb) fun D σ H q => ?_
  obtain ⟨own, env, n, R, k, l, f, q⟩ := q
  refine ⟨fun m σ2 H2 => ∃ own2 env2 n2, ER c own2 env2 n2 σ2 H2 ∧ whL t ks b m env2 k c.Xq n2, ⟨f, ?_⟩, fun m σ2 H2 w => ?_⟩
  · obtain ⟨own', R'⟩ := R.killE (is := ks)
    exact ⟨own', _, n, R', q⟩
  · obtain ⟨own2, env2, n2, R2, q2⟩ := w
    cases m with
    | zero => exact q2.elim
    | succ m =>
      refine ⟨own2, env2, n2, R2, _, q2, fun d n3 H3 q3 e3 vi3 => ?_⟩
      obtain ⟨h1, h2, h3⟩ := q3
      rcases h3 with rfl | rfl
      · refine ⟨true, rfl, ?_⟩
        show ∃ N : St → Hp → Prop, _ ∧ _
        refine ⟨fun σ' H' => ∃ own2 env2 n2, ER c own2 env2 n2 σ' H' ∧ whL t ks b m (killE ks env2) k c.Xq n2, fun σ' H' w' => ?_, own2, env2, n3, R2.go e3 vi3, _, ?_, h1 rfl⟩
        · obtain ⟨own3, env3, n3, R3, q3⟩ := w'
          obtain ⟨own4, R4⟩ := R3.killE (is := ks)
          exact ⟨m, Nat.lt_succ_self m, own4, _, n3, R4, q3⟩
        · exact ⟨fun own5 env5 n5 σ5 H5 q5 R5 => ⟨own5, env5, n5, R5, q5⟩, fun own5 env5 n5 σ5 H5 q5 R5 => l.nx own5 env5 n5 σ5 H5 q5 R5, fun own5 env5 n5 σ5 H5 q5 R5 => ⟨own5, env5, n5, R5, q5⟩, l.rt⟩
      · refine ⟨false, rfl, ?_⟩
        show D.nx σ2 H3
        exact l.nx own2 env2 n3 σ2 H3 (h2 rfl) (R2.go e3 vi3)
end DL

/-! part ten: comprehensions -/
namespace DL
open PySem PySem.Spec L2

def noX {α : Type} (m : Mo α) : Mo α := fun n Q _ => m n Q fun _ _ => False
def iteL {α : Type} (d : D) (m1 m2 : Mo α) : Mo α := match d with
  | .bl true => m1
  | .bl false => m2
  | _ => stop
theorem iteL_cases {α : Type} {d : D} {m1 m2 : Mo α} {n : Nat} {Q : α → Nat → Prop} {Xq : XD → Nat → Prop} (h : iteL d m1 m2 n Q Xq) : (d = .bl true ∧ m1 n Q Xq) ∨ (d = .bl false ∧ m2 n Q Xq) := by
  unfold iteL at h
  split at h
  · exact .inl ⟨rfl, h⟩
  · exact .inr ⟨rfl, h⟩
  · exact h.elim
def lcL (tg : Tg) (tt te : DE) (env : Env') : List D → List D → Mo (List D)
  | [], acc => ret acc
  | d :: ds, acc => match stT tg d env with
    | some env1 => bnd (tt env1) fun b => iteL b (bnd (te env1) fun y => need (acc.length < sizeLine) (lcL tg tt te env ds (acc ++ [y]))) (lcL tg tt te env ds acc)
    | none => stop
def isOwn : Option EV → Bool
  | some (.own _) => true
  | _ => false
def noOwn (vs : List Nat) (env : Env') : Bool := vs.all fun i => !isOwn env[i]?
def lcT (tg : Tg) (it : DI) (tt te : DE) (vs : List Nat) : DE := fun env => bnd (it env) fun ds => need (noOwn vs env = true) (bnd (noX (lcL tg tt te (killE vs env) ds [])) fun l => ret (.lst l))
theorem killE_own : ∀ {vs : List Nat} {env : Env'} {i : Nat} {d : D}, (killE vs env)[i]? = some (.own d) → i ∉ vs ∧ env[i]? = some (.own d)
  | [], _, _, _, h => ⟨by simp, h⟩
  | v :: vs, env, i, d, h => by
    rcases get_set h with ⟨e, _, z⟩ | ⟨ne, h⟩
    · cases z
    · obtain ⟨h1, h2⟩ := killE_own h
      exact ⟨by simp only [List.mem_cons, not_or]; exact ⟨ne, h1⟩, h2⟩
theorem own_killE : ∀ {vs : List Nat} {env : Env'} {i : Nat} {d : D}, i ∉ vs → env[i]? = some (.own d) → (killE vs env)[i]? = some (.own d)
  | [], _, _, _, _, h => h
  | v :: vs, env, i, d, hi, h => by
    simp only [List.mem_cons, not_or] at hi
    exact set_get (own_killE hi.2 h) hi.1
def yesT : DE := fun _ => ret (.bl true)
/-- within a comprehension's block -/
def Cn.blk (c : Cn) (gh : List (V × D)) (L : Addr) : Cn := { c with gh := gh ++ c.gh, hid := L :: c.hid, W := fun _ _ _ _ => False, Xq := fun _ _ _ => False }
section
variable {c : Cn} {own : Nat → Option Addr} {env : Env'} {n : Nat} {σ : St} {H : Hp} {vs : List Nat}
theorem wipe_wipe : ∀ {vs : List Nat}, wipe (wipe σ vs) vs = wipe σ vs
  | [] => rfl
  | v :: vs => by
    show (wipe ((wipe σ vs).set v none) vs).set v none = (wipe σ vs).set v none
    by_cases h : v ∈ vs
    · rw [wipe_in h, wipe_wipe]
    · rw [wipe_set h, wipe_wipe, List.set_set]
theorem ER.wipe : ∀ {vs : List Nat}, ER c own env n σ H → ∃ own', ER c own' (DL.killE vs env) n (L2.wipe σ vs) H ∧ ∀ i p, own' i = some p → own i = some p
  | [], R => ⟨own, R, fun _ _ h => h⟩
  | v :: vs, R => by
    obtain ⟨own', R', h⟩ := ER.wipe (vs := vs) R
    exact ⟨_, R'.setN, fun i p q => h i p (drop_some q).2⟩
/-- the new list is begun -/
theorem ER.toBlk {gh : List (V × D)} {L : Addr} (R : ER c own env n σ H) (hL : H L = none) (hg : ∀ p ∈ gh, Rp c.K c.dk H (AV c own) p.1 p.2) : ER (c.blk gh L) own env n σ (upd H L (.lst [])) := by
  have nd : ¬ IsDk c.dk L := fun e => by
    obtain ⟨_, h'⟩ := R.vi.lst e
    rw [hL] at h'; cases h'
  have av : ∀ a, AV (c.blk gh L) own a → AV c own a ∨ a = L := by
    rintro a (h | h | h | h)
    · exact .inl (.inl h)
    · exact .inl (.inr (.inl h))
    · exact .inl (.inr (.inr (.inl h)))
    · rcases List.mem_cons.mp h with h | h
      · exact .inr h
      · exact .inl (.inr (.inr (.inr h)))
  have md : ∀ {w : V} {b : D}, Rp c.K c.dk H (AV c own) w b → Rp c.K c.dk (upd H L (.lst [])) (AV (c.blk gh L) own) w b := fun h =>
    ((h.more hL).ext R.vi (fun _ z => .inl (AV.deck z)) (Ext.new hL)).less av
  have nH0 : c.H0 L = none := by
    cases q : c.H0 L with
    | none => rfl
    | some o =>
      rcases R.ext L o q with z | z
      · exact absurd z nd
      · rw [hL] at z; cases z
  have kp : ∀ a, H a ≠ none → (upd H L (.lst [])) a ≠ none := fun a h z => by
    by_cases e : a = L
    · rw [e, upd_same] at z; cases z
    · rw [upd_ne e] at z; exact h z
  refine ⟨R.vi.new hL, R.ext.trans (Ext.new hL), R.vi0, R.lo, fun i d h => ?_, fun i d h => ?_, fun i p h => ?_, R.inj, R.len, fun p h => ?_, fun a h => ?_⟩
  · obtain ⟨v, h1, h2⟩ := R.val i d h
    exact ⟨v, h1, md h2⟩
  · obtain ⟨p, h1, h2, h3⟩ := R.ow i d h
    refine ⟨p, h1, h2, ?_⟩
    have h4 : Ow c.K c.dk H (fun a => AV c own a ∨ a = L) p d := by
      cases d with
      | lst l => obtain ⟨xs, g1, g2⟩ := h3; exact ⟨xs, g1, g2.more hL⟩
      | dct ks l => obtain ⟨kvs, g1, g2, g3⟩ := h3; exact ⟨kvs, g1, g2, g3.more hL⟩
      | _ => exact h3.elim
    exact (h4.ext R.vi (fun _ z => .inl (AV.deck z)) (Ext.new hL) (R.onl i p h1).2.2.1).less av
  · obtain ⟨h1, h2, h3, h4⟩ := R.onl i p h
    exact ⟨h1, h2, h3, kp p h4⟩
  · rcases List.mem_append.mp h with h | h
    · exact md (hg p h)
    · exact md (R.gh p h)
  · rcases List.mem_cons.mp h with h | h
    · subst h
      exact ⟨nH0, nd, by rw [upd_same]; simp, fun i z => (R.onl i _ z).2.2.2 hL⟩
    · obtain ⟨h1, h2, h3, h4⟩ := R.hid a h
      exact ⟨h1, h2, kp a h3, h4⟩
/-- it grows -/
theorem ER.hidMut {L : Addr} {xs : List V} {o' : HO} (R : ER c own env n σ H) (hm : L ∈ c.hid) (hL : H L = some (.lst xs)) : ER c own env n σ (upd H L o') ∧ ∀ {w : List V} {b : List D}, RpL c.K c.dk H (AV c own) w b → RpL c.K c.dk (upd H L o') (AV c own) w b := by
  have av : AV c own L := .inr (.inr (.inr hm))
  obtain ⟨hH0, nd, _, nown⟩ := R.hid L hm
  have mdl : ∀ {w : List V} {b : List D}, RpL c.K c.dk H (AV c own) w b → RpL c.K c.dk (upd H L o') (AV c own) w b := fun h => by
    refine h.mono (fun a u q => ?_) (fun a xs q => ?_) (fun a ob u q => ?_) fun _ z => z
    · by_cases z : a = L
      · exact .inl (by rw [z]; exact av)
      · exact .inr (.inr (.inr (by rw [upd_ne z]; exact q)))
    · rw [upd_ne fun z => by rw [z, hL] at q; cases q]; exact q
    · rw [upd_ne fun z => by rw [z, hL] at q; cases q]; exact q
  have md : ∀ {w : V} {b : D}, Rp c.K c.dk H (AV c own) w b → Rp c.K c.dk (upd H L o') (AV c own) w b := fun h => by
    cases mdl (.cons h .nil) with
    | cons r _ => exact r
  have kp : ∀ a, H a ≠ none → (upd H L o') a ≠ none := fun a h z => by
    by_cases e : a = L
    · rw [e, upd_same] at z; cases z
    · rw [upd_ne e] at z; exact h z
  refine ⟨⟨R.vi.on fun a h => upd_ne fun z => nd (z ▸ h), fun a u q => ?_, R.vi0, R.lo, fun i d h => ?_, fun i d h => ?_, fun i p h => ?_, R.inj, R.len, fun p h => md (R.gh p h), fun a h => ?_⟩, mdl⟩
  · rcases R.ext a u q with z | z
    · exact .inl z
    · exact .inr (by rw [upd_ne (fun w => by rw [w, hH0] at q; cases q)]; exact z)
  · obtain ⟨v, h1, h2⟩ := R.val i d h
    exact ⟨v, h1, md h2⟩
  · obtain ⟨p, h1, h2, h3⟩ := R.ow i d h
    refine ⟨p, h1, h2, ?_⟩
    have np : p ≠ L := fun z => nown i (by rw [← z]; exact h1)
    cases d with
    | lst l => obtain ⟨xs, g1, g2⟩ := h3; exact ⟨xs, by rw [upd_ne np]; exact g1, mdl g2⟩
    | dct ks l => obtain ⟨kvs, g1, g2, g3⟩ := h3; exact ⟨kvs, by rw [upd_ne np]; exact g1, g2, mdl g3⟩
    | _ => exact h3.elim
  · obtain ⟨h1, h2, h3, h4⟩ := R.onl i p h
    exact ⟨h1, h2, h3, kp p h4⟩
  · obtain ⟨h1, h2, h3, h4⟩ := R.hid a h
    exact ⟨h1, h2, kp a h3, h4⟩
end

/-- the parts of a block, for whatever stands ahead of it -/
def anyE (c : Cn) (t : DE) : TE := fun σ H Q => ∃ gh L, tX (c.blk gh L) .s t σ H Q
def anyT (c : Cn) (t : DE) : TT := fun σ H Q => ∃ gh L, tT (c.blk gh L) t σ H Q
theorem pe_any {X : Cx} {c : Cn} {e : Expr} {t : DE} (h : ∀ gh L, PE X e (tX (c.blk gh L) .s t)) : PE X e (anyE c t) := ⟨fun pins s σ H Q I q => by
  obtain ⟨gh, L, q⟩ := q
  exact (h gh L).run pins s σ H Q I q⟩
theorem pt_any {X : Cx} {c : Cn} {es : List Expr} {t : DE} (h : ∀ gh L, PTs X es (tT (c.blk gh L) t)) : PTs X es (anyT c t) := ⟨fun pins s σ H Q I q => by
  obtain ⟨gh, L, q⟩ := q
  exact (h gh L).run pins s σ H Q I q⟩
theorem pts_yes {X : Cx} {c : Cn} : PTs X [] (tT c yesT) := ⟨fun pins s σ H Q I q => by
  obtain ⟨own, env, n, R, Qd, h1, h2⟩ := q
  obtain ⟨b, e, q⟩ := h2 _ n H h1 Ext.refl R.vi
  cases e
  exact pts_nil.run pins s σ H Q I q⟩
theorem r_lc {c : Cn} {tg : Tg} {it : DI} {tt te : DE} {vs : List Nat} (hsl : ∀ i ∈ slotsT tg, i ∈ vs) {σ : St} {H : Hp} {Q : VK} (q : tX c .f (lcT tg it tt te vs) σ H Q) : tLc (tI c it) (gT c.K tg) (anyT c tt) (anyE c te) vs σ H Q := by
  obtain ⟨own, env, n, R, Qd, q, g⟩ := q
  refine ⟨own, env, n, R, _, q, fun ds n1 J H1 gh q e vi hgh hw L hL => ?_⟩
  have R1 := R.go e vi
  obtain ⟨hno, q⟩ := q
  have q : lcL tg tt te (killE vs env) ds [] n1 (fun l n2 => Qd (.lst l) n2) (fun _ _ => False) := q
  obtain ⟨own', Rw, how⟩ := R1.wipe (vs := vs)
  have sub : ∀ a, AV c own' a → AV c own a := by
    rintro a (h | h | ⟨i, h⟩ | h)
    · exact .inl h
    · exact .inr (.inl h)
    · exact .inr (.inr (.inl ⟨i, how i a h⟩))
    · exact .inr (.inr (.inr h))
  have R2 := Rw.toBlk hL (gh := gh) fun p hp => (hgh p hp).less sub
  have nd : ¬ IsDk c.dk L := (R2.hid L List.mem_cons_self).2.1
  refine ⟨fun i m H2 => m = ds.length - i ∧ i ≤ ds.length ∧ ∃ own2 n2 acc accD, ER (c.blk gh L) own2 (killE vs env) n2 (wipe σ vs) H2 ∧ (∀ i p, own2 i = some p → own' i = some p) ∧ Ext c.dk H1 H2 ∧ H2 L = some (.lst acc) ∧ RpL c.K c.dk H2 (AV (c.blk gh L) own2) acc accD ∧
    lcL tg tt te (killE vs env) (ds.drop i) accD n2 (fun l n2 => Qd (.lst l) n2) (fun _ _ => False), ⟨ds.length, by omega, Nat.zero_le _, own', n1, [], [], R2, fun _ _ h => h, Ext.new hL, upd_same, .nil, by simpa using q⟩, fun i m H2 w => ?_⟩
  obtain ⟨hm, hle, own2, n2, acc, accD, R3, ho2, ex3, hL3, ra, q3⟩ := w
  have hgh2 : ∀ p ∈ gh, Rp c.K c.dk H2 (AV (c.blk gh L) own2) p.1 p.2 := fun p hp => R3.gh p (List.mem_append_left _ hp)
  obtain ⟨w1, w2, w3⟩ := hw _ i H2 hgh2
  by_cases hi : i < ds.length
  · refine .inr ⟨w1 hi, fun H' => ∃ own2 n2 acc accD, ER (c.blk gh L) own2 (killE vs env) n2 (wipe σ vs) H' ∧ (∀ i p, own2 i = some p → own' i = some p) ∧ Ext c.dk H1 H' ∧ H' L = some (.lst acc) ∧ RpL c.K c.dk H' (AV (c.blk gh L) own2) acc accD ∧
      lcL tg tt te (killE vs env) (ds.drop (i + 1)) accD n2 (fun l n2 => Qd (.lst l) n2) (fun _ _ => False), fun H' w' => ⟨ds.length - (i + 1), by omega, rfl, hi, w'⟩, fun x H' y => ?_⟩
    obtain ⟨st, yd⟩ := w3 x H' y
    obtain ⟨d, hd, rd⟩ := yd hi
    have ex4 : Ext c.dk H2 H' := ext_step st
    have R4 : ER (c.blk gh L) own2 (killE vs env) n2 (wipe σ vs) H' := R3.go ex4 (vi_step R3.vi st)
    rw [List.drop_eq_getElem_cons hi] at q3
    have ed : ds[i] = d := by
      rw [List.getElem?_eq_getElem hi] at hd
      exact Option.some.inj hd
    rw [ed] at q3
    cases he : stT tg d (killE vs env) with
    | none =>
      simp only [lcL, he] at q3
      exact q3.elim
    | some env1 =>
      simp only [lcL, he] at q3
      refine gT_ok (c := c.blk gh L) R4 rd he fun own5 σ5 R5 hw5 ho5 => ⟨(hw5 vs hsl).trans wipe_wipe, gh, L, own5, env1, n2, R5, _, q3, fun b n6 H6 q6 e6 vi6 => ?_⟩
      have ex6 : Ext c.dk H2 H6 := ex4.trans e6
      have R4' : ER (c.blk gh L) own2 (killE vs env) n6 (wipe σ vs) H6 := R4.go e6 vi6
      have hL6 : H6 L = some (.lst acc) := (ex6 L _ hL3).resolve_left nd
      have ra6 : RpL c.K c.dk H6 (AV (c.blk gh L) own2) acc accD := ra.ext R3.vi (fun _ z => AV.deck (c := c.blk gh L) z) ex6
      rcases iteL_cases q6 with ⟨rfl, q6⟩ | ⟨rfl, q6⟩
      · refine ⟨true, rfl, ?_⟩
        show anyE c te σ5 H6 _
        refine ⟨gh, L, own5, env1, n6, R5.go e6 vi6, _, q6, fun y n7 v H7 q7 e7 vi7 r7 => ?_⟩
        obtain ⟨hz, q7⟩ := q7
        have hL7 : H7 L = some (.lst acc) := (e7 L _ hL6).resolve_left nd
        have R7 : ER (c.blk gh L) own2 (killE vs env) n7 (wipe σ vs) H7 := R4'.go e7 vi7
        have ra7 : RpL c.K c.dk H7 (AV (c.blk gh L) own2) acc accD := ra6.ext R4'.vi (fun _ z => AV.deck (c := c.blk gh L) z) e7
        obtain ⟨R8, m8⟩ := R7.hidMut (o' := .lst (acc ++ [v])) List.mem_cons_self hL7
        have r7 : Rp c.K c.dk H7 (AV (c.blk gh L) own5) v y := r7
        have rv : Rp c.K c.dk H7 (AV (c.blk gh L) own2) v y := by
          refine r7.less ?_
          rintro a (h | h | ⟨j, h⟩ | h)
          · exact .inl h
          · exact .inr (.inl h)
          · obtain ⟨⟨d', h1⟩, _⟩ := R3.onl j a h
            exact .inr (.inr (.inl ⟨j, ho5 j a h fun z => (killE_own h1).1 (hsl j z)⟩))
          · exact .inr (.inr (.inr h))
        refine ⟨acc, hL7, by rw [ra7.length]; exact hz, own2, n7, acc ++ [v], accD ++ [y], R8, ho2, ?_, upd_same, m8 (ra7.append (.cons rv .nil)), q7⟩
        intro a o h
        rcases (ex3.trans (ex6.trans e7)) a o h with z | z
        · exact .inl z
        · exact .inr (by rw [upd_ne (ne_of_none h hL)]; exact z)
      · refine ⟨false, rfl, ?_⟩
        exact ⟨own2, n6, acc, accD, R4', ho2, ex3.trans ex6, hL6, ra6, q6⟩
  · have ei : i = ds.length := by omega
    refine .inl ⟨w2 (by omega), ?_⟩
    rw [ei, List.drop_length] at q3
    have q3 : Qd (.lst accD) n2 := q3
    refine g _ n2 _ H2 q3 (e.trans ex3) R3.vi ⟨L, rfl, e.fresh vi hL, nd, ?_, acc, hL3, ?_⟩
    · exact R.notAV (e.fresh vi hL)
    · refine ra.less ?_
      rintro a ((h | h | ⟨j, h⟩ | h) | h)
      · exact .inl h
      · exact .inr (.inl h)
      · obtain ⟨⟨d', h1⟩, _⟩ := R.onl j a h
        have nj : j ∉ vs := fun z => by
          have := List.all_eq_true.mp hno j z
          rw [h1] at this
          exact Bool.noConfusion this
        obtain ⟨p', h2, _⟩ := R3.ow j d' (own_killE nj h1)
        have h3 := how j p' (ho2 j p' h2)
        rw [h] at h3
        cases h3
        exact .inr (.inr (.inl ⟨j, h2⟩))
      · exact .inr (.inr (.inr (List.mem_cons_of_mem _ h)))
      · exact .inr (.inr (.inr (by rw [h]; exact List.mem_cons_self)))
end DL

/-! part eleven: what a def's text needs of its context; the rules in short, to be printed -/
namespace DL
open PySem PySem.Spec L2

structure Gd (P : Program) (w : World) (base : Heap) (k : Nat) (N : List Str) (sc : Scope) (X : Cx) (c : Cn) : Prop where
  nd : N.Nodup
  prog : X.prog = P
  w : X.w = w
  base : X.base = base
  N : X.N = N
  sc : X.env.scope = sc
  K : X.K = c.K
  mg : X.mg = c.mg
  calm : X.calm = true
  room : Room k X.A
  takes : Takes X c.W
  link : XLink c
  xlf : ∀ xd env n, c.Xq env xd n → lfL (xd.fs.map (·.2)) = true
section
variable {P : Program} {w : World} {base : Heap} {k : Nat} {N : List Str} {sc : Scope} {X : Cx} {c : Cn}
theorem Gd.hu (G : Gd P w base k N sc X c) : X.A.units + 150 < cLine := by have := G.room.un; omega
theorem Gd.gl {x : Str} (G : Gd P w base k N sc X c) (h : sc.names.lookup x = some .globalImplicit) : Gl X x := by
  unfold Gl Env.kindOf
  rw [G.sc]
  exact h
theorem Gd.wg {gh : List (V × D)} (G : Gd P w base k N sc X c) : Gd P w base k N sc X (c.wg gh []) :=
  ⟨G.nd, G.prog, G.w, G.base, G.N, G.sc, G.K, G.mg, G.calm, G.room, G.takes, fun own env n σ H xd cls od R x q => G.link own env n σ H xd cls od R.ofG x q, G.xlf⟩
theorem Gd.blk {scope : Scope} {s : Shared} {H : Hp} {cl : List (Str × Addr)} {C : Addr} {fp : List Addr} {gh : List (V × D)} {L : Addr} (G : Gd P w base k N sc X c) :
    Gd P w base k N (relS scope sc) (X.blk s H scope (compEnvC scope cl C X.env) fp) (c.blk gh L) :=
  ⟨G.nd, G.prog, G.w, G.base, G.N, by rw [← G.sc]; rfl, G.K, G.mg, G.calm, G.room, takes0, fun _ _ _ _ _ _ _ _ _ _ q => q.elim, fun _ _ _ q => q.elim⟩

/-! ### names, constants -/
def vS (i : Nat) : DE := fun env => match env[i]? with
  | some (.val d) => ret d
  | _ => stop
def vW (i : Nat) : DE := fun env => match env[i]? with
  | some (.val d) => ret d
  | some (.own d) => ret d
  | _ => stop
def kD (d : D) : DE := fun _ => ret d
/-- a name's kind -/
def visB (sc : Scope) (x : Str) : Bool := match sc.names.lookup x with
  | some .local => true
  | some .cell => true
  | some .free => true
  | _ => false
theorem vis_of {x : Str} (h : visB sc x = true) : Vis sc x := by
  unfold visB at h
  unfold Vis
  split at h <;> first | exact .inl (by assumption) | exact .inr (.inl (by assumption)) | exact .inr (.inr (by assumption)) | cases h
def nameOk (N : List Str) (sc : Scope) (i : Nat) (x : Str) : Bool := decide (N[i]? = some x) && visB sc x && !(x == ("__debug__" : Str)) && !(x == ("__classdict__" : Str))
theorem pe_v (G : Gd P w base k N sc X c) {i : Nat} {x : Str} {pos : Pos} (h : nameOk N sc i x = true) : PE X (.Name x pos) (tVar i) := by
  simp only [nameOk, Bool.and_eq_true, decide_eq_true_eq, Bool.not_eq_true'] at h
  obtain ⟨⟨⟨h1, h2⟩, h3⟩, h4⟩ := h
  exact pe_var (by rw [G.N]; exact h1) (by rw [G.sc]; exact vis_of h2) h3 h4
theorem e_v (G : Gd P w base k N sc X c) (i : Nat) {x : Str} {pos : Pos} (h : nameOk N sc i x = true) : PE X (.Name x pos) (tX c .s (vS i)) := by
  refine PE.imp (pe_v G h) fun σ H Q q => ?_
  obtain ⟨own, env, n, R, g⟩ := q
  unfold vS at g
  split at g
  · rename_i d hd
    obtain ⟨v, h1, h2⟩ := R.val i d hd
    exact ⟨v, h1, g.done R h2⟩
  · exact g.stop'.elim
theorem e_w (G : Gd P w base k N sc X c) (i : Nat) {x : Str} {pos : Pos} (h : nameOk N sc i x = true) : PE X (.Name x pos) (tX c .w (vW i)) := by
  refine PE.imp (pe_v G h) fun σ H Q q => ?_
  obtain ⟨own, env, n, R, g⟩ := q
  unfold vW at g
  split at g
  · rename_i d hd
    obtain ⟨v, h1, h2⟩ := R.val i d hd
    exact ⟨v, h1, g.done R (h2.rw fun _ z => AV.deck z)⟩
  · rename_i d hd
    obtain ⟨p, h1, h2, h3⟩ := R.ow i d hd
    exact ⟨_, h2, g.done R (h3.rw (R.onl i p h1).2.2.1)⟩
  · exact g.stop'.elim
theorem e_int {i : Int} {j : Nat} {pos : Pos} : PE X (.Constant (.int i) j pos) (tX c .s (kD (.int i))) := PE.imp pe_int fun σ H Q q => by
  obtain ⟨own, env, n, R, g⟩ := q
  exact g.done R (Rp.int _)
theorem e_bl {b : Bool} {j : Nat} {pos : Pos} : PE X (.Constant (.bool b) j pos) (tX c .s (kD (.bl b))) := PE.imp pe_bl fun σ H Q q => by
  obtain ⟨own, env, n, R, g⟩ := q
  exact g.done R (Rp.bl _)
theorem e_non {j : Nat} {pos : Pos} : PE X (.Constant .none j pos) (tX c .s (kD .non)) := PE.imp pe_non fun σ H Q q => by
  obtain ⟨own, env, n, R, g⟩ := q
  exact g.done R Rp.non
theorem e_str {x : Str} {j : Nat} {pos : Pos} (h : PyData.strOk x = true) : PE X (.Constant (.str x) j pos) (tX c .s (kD (.str x))) := PE.imp pe_str fun σ H Q q => by
  obtain ⟨own, env, n, R, g⟩ := q
  exact g.done R (Rp.str h)

/-! ### operators -/
section
variable {a b : Expr} {ta tb : DE} {ma mb md : Md} {pos : Pos}
theorem e_op {op : Operator} {r : R2} {f : D → D → Mo D} (ho : OpR X (binaryOp op) r) (o : Op2 c ma mb md r f) (ha : PE X a (tX c ma ta)) (hb : PE X b (tX c mb tb)) : PE X (.BinOp a op b pos) (tX c md (bin2 ta tb f)) :=
  PE.imp (pe_op ho ha hb) fun σ H Q q => op2_tX o q
theorem e_un {op : UnaryOp} {r : V → Hp → VK → Prop} {f : D → Mo D} (ho : UnR X (unaryOp op) r) (o : Op1 c ma md r f) (ha : PE X a (tX c ma ta)) : PE X (.UnaryOp op a pos) (tX c md (un1 ta f)) :=
  PE.imp (pe_un ho ha) fun σ H Q q => op1_tX o q
theorem e_add (G : Gd P w base k N sc X c) (ha : PE X a (tX c ma ta)) (hb : PE X b (tX c mb tb)) : PE X (.BinOp a .Add b pos) (tX c .s (bin2 ta tb addD)) := e_op op_addAll (by rw [G.K]; exact o_add) ha hb
theorem e_cat (G : Gd P w base k N sc X c) (ha : PE X a (tX c ma ta)) (hb : PE X b (tX c mb tb)) : PE X (.BinOp a .Add b pos) (tX c .f (bin2 ta tb catD)) := e_op op_addAll (by rw [G.K]; exact o_cat) ha hb
theorem e_sub (ha : PE X a (tX c ma ta)) (hb : PE X b (tX c mb tb)) : PE X (.BinOp a .Sub b pos) (tX c .s (bin2 ta tb subD)) := e_op op_sub o_sub ha hb
theorem e_mul (ha : PE X a (tX c ma ta)) (hb : PE X b (tX c mb tb)) : PE X (.BinOp a .Mult b pos) (tX c .s (bin2 ta tb (fun a b => match a, b with | .str _, _ => stop | _, _ => mulD a b))) := e_op op_mulAll o_mul ha hb
theorem e_fdiv (ha : PE X a (tX c ma ta)) (hb : PE X b (tX c mb tb)) : PE X (.BinOp a .FloorDiv b pos) (tX c .s (bin2 ta tb fdivD)) := e_op op_fdiv o_fdiv ha hb
theorem e_mod (ha : PE X a (tX c ma ta)) (hb : PE X b (tX c mb tb)) : PE X (.BinOp a .Mod b pos) (tX c .s (bin2 ta tb modD)) := e_op op_mod o_mod ha hb
theorem e_pow (ha : PE X a (tX c ma ta)) (hb : PE X b (tX c mb tb)) : PE X (.BinOp a .Pow b pos) (tX c .s (bin2 ta tb powD)) := e_op op_pow o_pow ha hb
theorem e_neg (ha : PE X a (tX c ma ta)) : PE X (.UnaryOp .USub a pos) (tX c .s (un1 ta negD)) := e_un un_neg o_neg ha
/-- a comparison: its parts, for both its uses -/
structure CmpX (X : Cx) (c : Cn) (op : CmpOp) (f : D → D → Mo D) : Prop where
  ex : ∃ r, OpR X (compareOp op) r ∧ ∀ ma mb, Op2 c ma mb .s r f
theorem x_eq (G : Gd P w base k N sc X c) : CmpX X c .Eq eqD := ⟨_, op_eqD (by have := G.hu; omega), fun _ _ => by rw [G.K]; exact o_eq⟩
theorem x_ne (G : Gd P w base k N sc X c) : CmpX X c .NotEq neD := ⟨_, op_neD (by have := G.hu; omega), fun _ _ => by rw [G.K]; exact o_ne⟩
theorem x_lt (G : Gd P w base k N sc X c) : CmpX X c .Lt ltD := ⟨_, op_ltD G.hu, fun _ _ => by rw [G.K]; exact o_lt⟩
theorem x_le (G : Gd P w base k N sc X c) : CmpX X c .LtE leD := ⟨_, op_leD G.hu, fun _ _ => by rw [G.K]; exact o_le⟩
theorem x_gt (G : Gd P w base k N sc X c) : CmpX X c .Gt gtD := ⟨_, op_gtAll, fun _ _ => o_gt⟩
theorem x_ge (G : Gd P w base k N sc X c) : CmpX X c .GtE geD := ⟨_, op_geAll, fun _ _ => o_ge⟩
theorem x_is (G : Gd P w base k N sc X c) : CmpX X c .Is isND := ⟨_, op_isN, fun _ _ => o_isN⟩
theorem x_isnot (G : Gd P w base k N sc X c) : CmpX X c .IsNot notND := ⟨_, op_notN, fun _ _ => o_notN⟩
theorem x_in (G : Gd P w base k N sc X c) : CmpX X c .In inD := ⟨_, op_inAll (by have := G.hu; omega), fun _ _ => by rw [G.K]; exact o_in⟩
theorem x_notin (G : Gd P w base k N sc X c) : CmpX X c .NotIn notInD := ⟨_, op_notInAll (by have := G.hu; omega), fun _ _ => by rw [G.K]; exact o_notIn⟩
theorem e_cmp {op : CmpOp} {f : D → D → Mo D} (o : CmpX X c op f) (ha : PE X a (tX c ma ta)) (hb : PE X b (tX c mb tb)) (hm : behindInMarks op b = false) : PE X (.Compare a [op] [b] pos) (tX c .s (bin2 ta tb f)) := by
  obtain ⟨r, h1, h2⟩ := o.ex
  exact pe_cmp' h1 (h2 _ _) ha hb hm
theorem t_cmp {op : CmpOp} {f : D → D → Mo D} (o : CmpX X c op f) (ha : PE X a (tX c ma ta)) (hb : PE X b (tX c mb tb)) (hm : behindInMarks op b = false) : PT X (.Compare a [op] [b] pos) (tT c (bin2 ta tb f)) := by
  obtain ⟨r, h1, h2⟩ := o.ex
  exact pt_cmp' h1 (h2 _ _) ha hb hm
/-! items, slices -/
theorem e_ix (G : Gd P w base k N sc X c) (ha : PE X a (tX c ma ta)) (hb : PE X b (tX c mb tb)) (hs : ∀ x y, subscripted b false x y = operate [x, y] (getItem x y)) : PE X (.Subscript a b pos) (tX c .s (bin2 ta tb ixD)) :=
  PE.imp (pe_ix (ix_all (by have := G.hu; omega)) ha hb hs) fun σ H Q q => by
    rw [G.K]
    exact op2_tX o_ix q
theorem e_sl (G : Gd P w base k N sc X c) {lo hi : Option Expr} {tl th : DO} {p2 : Pos} (ha : PE X a (tX c ma ta)) (hl : PO X lo (tO c tl)) (hh : PO X hi (tO c th)) : PE X (.Subscript a (.Slice lo hi none p2) pos) (tX c .s (sl3 ta tl th slD)) :=
  PE.imp (pe_slice sl_all ha hl hh) fun σ H Q q => by
    rw [G.K]
    exact sl_tX o_sl q
theorem e_slL (G : Gd P w base k N sc X c) {lo hi : Option Expr} {tl th : DO} {p2 : Pos} (ha : PE X a (tX c ma ta)) (hl : PO X lo (tO c tl)) (hh : PO X hi (tO c th)) : PE X (.Subscript a (.Slice lo hi none p2) pos) (tX c .f (sl3 ta tl th slLD)) :=
  PE.imp (pe_slice sl_all ha hl hh) fun σ H Q q => by
    rw [G.K]
    exact sl_tX o_slL q
/-! calls of built-ins with one argument -/
structure CalX (X : Cx) (c : Cn) (v : Value) (md : Md) (f : D → Mo D) : Prop where
  ex : ∃ r, CallR X v r ∧ ∀ ma, OpC c ma md r f
theorem c_len (G : Gd P w base k N sc X c) : CalX X c (.builtin "len") .s lenD := ⟨_, call_lenAll, fun _ => by rw [G.K]; exact o_len⟩
theorem c_list (G : Gd P w base k N sc X c) : CalX X c (.type "list") .f listD := ⟨_, call_list_of, fun _ => by rw [G.K]; exact o_list⟩
theorem c_tuple (G : Gd P w base k N sc X c) : CalX X c (.type "tuple") .s tupleD := ⟨_, call_tupleF, fun _ => by rw [G.K]; exact o_tuple⟩
theorem c_int (G : Gd P w base k N sc X c) : CalX X c (.type "int") .s intD := ⟨_, call_int1, fun _ => o_int⟩
theorem c_abs (G : Gd P w base k N sc X c) : CalX X c (.builtin "abs") .s absD := ⟨_, call_abs, fun _ => o_abs⟩
theorem c_all (G : Gd P w base k N sc X c) : CalX X c (.builtin "all") .s allD := ⟨_, cr_all G.calm, fun _ => by rw [G.K]; exact o_all⟩
theorem c_any (G : Gd P w base k N sc X c) : CalX X c (.builtin "any") .s anyD := ⟨_, cr_any G.calm, fun _ => by rw [G.K]; exact o_any⟩
/-- a built-in's name: global, not bound in the module -/
def glB (sc : Scope) (x : Str) : Bool := (match sc.names.lookup x with | some .globalImplicit => true | _ => false) && !(x == ("__debug__" : Str)) && !(x == ("__name__" : Str))
theorem glB_of {x : Str} (h : glB sc x = true) : sc.names.lookup x = some .globalImplicit ∧ (x == ("__debug__" : Str)) = false ∧ x ≠ "__name__" := by
  simp only [glB, Bool.and_eq_true, Bool.not_eq_true', beq_eq_false_iff_ne] at h
  obtain ⟨⟨h1, h2⟩, h3⟩ := h
  refine ⟨?_, by simpa using h2, h3⟩
  split at h1
  · assumption
  · cases h1
theorem e_callB (G : Gd P w base k N sc X c) {id : String} {x : Str} {f : D → Mo D} {p : Pos} (o : CalX X c (.builtin id) md f) (hg : glB sc x = true) (hm : c.mg x = none) (hv : bootBuiltins x = some (.builtin id)) (ha : PE X a (tX c ma ta))
    (he : starEach [a] X.env = (false, eval a X.env) :: starEach [] X.env) : PE X (.Call (.Name x p) [a] [] pos) (tX c md (un1 ta f)) := by
  obtain ⟨r, h1, h2⟩ := o.ex
  obtain ⟨g1, g2, g3⟩ := glB_of hg
  exact PE.imp (pe_callB h1 (G.gl g1) (by rw [G.mg]; exact hm) hv (pa_cons ha pa_nil he) g3 g2 he rfl) fun σ H Q q => opC_tX (h2 _) q
theorem e_callT (G : Gd P w base k N sc X c) {id : String} {x : Str} {f : D → Mo D} {p : Pos} (o : CalX X c (.type id) md f) (hg : glB sc x = true) (hm : c.mg x = none) (hv : bootBuiltins x = some (.type id)) (ha : PE X a (tX c ma ta))
    (he : starEach [a] X.env = (false, eval a X.env) :: starEach [] X.env) : PE X (.Call (.Name x p) [a] [] pos) (tX c md (un1 ta f)) := by
  obtain ⟨r, h1, h2⟩ := o.ex
  obtain ⟨g1, g2, g3⟩ := glB_of hg
  exact PE.imp (pe_callTy h1 (G.gl g1) (by rw [G.mg]; exact hm) hv (pa_cons ha pa_nil he) g3 g2 he rfl) fun σ H Q q => opC_tX (h2 _) q
end

/-! ### calls of defs -/
section
variable {e : Expr} {es : List Expr} {u : DA} {p pos : Pos} {x : Str}
theorem e_def (G : Gd P w base k N sc X c) {np : Nat} {m : MD} (F : FOk P w c.K c.mg base k ⟨x, np, m⟩) (hg : glB sc x = true) (ha : PA X (e :: es) (tA c .s np u)) (hs : starEach (e :: es) X.env = (false, eval e X.env) :: starEach es X.env)
    (hpl : (backTo pos (starEach es X.env)).any (·.1) = false) : PE X (.Call (.Name x p) (e :: es) [] pos) (tX c .s (callT m u)) := by
  obtain ⟨g1, g2, g3⟩ := glB_of hg
  exact pe_def G.prog G.w G.K G.mg G.base F G.room G.takes (G.gl g1) ha g2 hs hpl fun σ H Q q => call_s G.link G.xlf q
theorem e_defW (G : Gd P w base k N sc X c) {np : Nat} {m : MD} (F : FOk P w c.K c.mg base k ⟨x, np, m⟩) (hg : glB sc x = true) (ha : PA X (e :: es) (tA c .w np u)) (hs : starEach (e :: es) X.env = (false, eval e X.env) :: starEach es X.env)
    (hpl : (backTo pos (starEach es X.env)).any (·.1) = false) : PE X (.Call (.Name x p) (e :: es) [] pos) (tX c .s (callW m u)) := by
  obtain ⟨g1, g2, g3⟩ := glB_of hg
  exact pe_def G.prog G.w G.K G.mg G.base F G.room G.takes (G.gl g1) ha g2 hs hpl fun σ H Q q => call_w G.link G.xlf q
end

/-! ### statements -/
section
variable {e : Expr} {te : DE} {i : Nat} {x : Str} {pos pos' : Pos}
def locB (sc : Scope) (x : Str) : Bool := match sc.names.lookup x with
  | some .local => true
  | some .cell => true
  | _ => false
def isLoc (sc : Scope) (x : Str) : Bool := match sc.names.lookup x with
  | some .local => true
  | _ => false
theorem loc_of {x : Str} (h : locB sc x = true) : L2.Loc sc x := by
  unfold locB at h
  unfold L2.Loc
  split at h <;> first | exact .inl (by assumption) | exact .inr (by assumption) | cases h
theorem isLoc_of {x : Str} (h : isLoc sc x = true) : sc.names.lookup x = some .local := by
  unfold isLoc at h
  split at h
  · assumption
  · cases h
def slotOk (N : List Str) (sc : Scope) (i : Nat) (x : Str) : Bool := decide (N[i]? = some x) && locB sc x
/-- a name to be stored: here any cell is of the def itself -/
structure FnC (X : Cx) : Prop where
  all : ∀ x, X.fn x = true
theorem s_asg (G : Gd P w base k N sc X c) (hf : FnC X) (h : slotOk N sc i x = true) (he : PE X e (tX c .s te)) (hs : swapsWith e (some (.Name x pos')) pos.line X.env = pure false) : PS X (.Assign [.Name x pos'] e pos) (tS c (asgS i te)) := by
  simp only [slotOk, Bool.and_eq_true, decide_eq_true_eq] at h
  exact PS.imp (ps_set (by rw [G.N]; exact G.nd) (by rw [G.N]; exact h.1) (by rw [G.sc]; exact loc_of h.2) he hs (.inl (hf.all x))) fun D σ H q => r_asg q
theorem s_asgO (G : Gd P w base k N sc X c) (hf : FnC X) (h : slotOk N sc i x = true) (he : PE X e (tX c .f te)) (hs : swapsWith e (some (.Name x pos')) pos.line X.env = pure false) : PS X (.Assign [.Name x pos'] e pos) (tS c (asgO i te)) := by
  simp only [slotOk, Bool.and_eq_true, decide_eq_true_eq] at h
  exact PS.imp (ps_set (by rw [G.N]; exact G.nd) (by rw [G.N]; exact h.1) (by rw [G.sc]; exact loc_of h.2) he hs (.inl (hf.all x))) fun D σ H q => r_asgO q
end
/-! targets -/
def slotsOk (N : List Str) (sc : Scope) : List Nat → List Str → Bool
  | [], [] => true
  | i :: is, x :: xs => slotOk N sc i x && slotsOk N sc is xs
  | _, _ => false
theorem g_nm (G : Gd P w base k N sc X c) {i : Nat} {x : Str} {pos : Pos} (hf : X.fn x = true ∨ isLoc sc x = true) (h : slotOk N sc i x = true) : PG X (.Name x pos) (gT X.K (.nm i)) := by
  simp only [slotOk, Bool.and_eq_true, decide_eq_true_eq] at h
  exact pg_name (by rw [G.N]; exact G.nd) (by rw [G.N]; exact h.1) (by rw [G.sc]; exact loc_of h.2) (hf.imp id fun h => by rw [G.sc]; exact isLoc_of h)
theorem gs_nil : PGs X [] (gNms []) := pgs_nil
theorem gs_cons (G : Gd P w base k N sc X c) {i : Nat} {x : Str} {pos : Pos} {es : List Expr} {is : List Nat} (hf : X.fn x = true ∨ isLoc sc x = true) (h : slotOk N sc i x = true) (hr : PGs X es (gNms is)) (hs : (assignEach (.Name x pos :: es) X.env).map (·.2) = assign (.Name x pos) X.env :: (assignEach es X.env).map (·.2)) :
    PGs X (.Name x pos :: es) (gNms (i :: is)) := pgs_cons (g_nm G hf h) hr hs
theorem g_tp (G : Gd P w base k N sc X c) {es : List Expr} {is : List Nat} {kk : Nat} {pos : Pos} (h : PGs X es (gNms is)) (hn : (assignEach es X.env).length = is.length) (hst : (assignEach es X.env).findIdx? (·.1) = none) : PG X (.Tuple es kk pos) (gT X.K (.tp is)) :=
  pg_tup G.calm h hn hst
/-- unpacking -/
def unpS (tg : Tg) (e : DE) : DS := fun env k X n => e env n (fun d n' => match stT tg d env with | some env' => k.nx env' n' | none => False) (X env)
theorem r_unp {te : DE} {tg : Tg} {D : Ends} {σ : St} {H : Hp} (q : tS c (unpS tg te) D σ H) : tAsg (tX c .s te) (gT c.K tg) D σ H := by
  obtain ⟨own, env, n, R, k, l, q⟩ := q
  refine ⟨own, env, n, R, _, q, fun d n' v H' q e vi r => ?_⟩
  have R1 := R.go e vi
  split at q
  · rename_i env' he
    exact gT_ok R1 r he fun own1 σ1 R2 _ _ => l.nx own1 env' n' σ1 H' q R2
  · exact q.elim
theorem s_unp (G : Gd P w base k N sc X c) {tge e : Expr} {te : DE} {tg : Tg} {pos : Pos} (he : PE X e (tX c .s te)) (hg : PG X tge (gT X.K tg)) (hs : swapsWithSole [tge] e pos.line X.env = pure false) (hw : swappedStores [tge] e X.env = pure none)
    (h1 : (assignEach [tge] X.env).map (·.2) = [assign tge X.env]) : PS X (.Assign [tge] e pos) (tS c (unpS tg te)) := by
  rw [G.K] at hg
  exact PS.imp (ps_asg he hg hs hw h1) fun D σ H q => r_unp q
end
end DL

/-! part twelve: a def from its body; the law's own def, from the top -/
namespace DL
open PySem PySem.Spec L2

/-- what a def of nN slots computes -/
def envOf (nN : Nat) (ds : List D) : Env' := ds.map EV.val ++ List.replicate (nN - ds.length) EV.no
def defM (nN : Nat) (t : DS) : MD := fun ds n Q Xd => t (envOf nN ds) { nx := fun _ n' => Q .non n', rt := Q } (fun _ => Xd) n
section
variable {P : Program} {w : World} {K : PySem.W.Frag} {mg : Str → Option Value} {base : Heap} {k : Nat}
theorem er_start {c : Cn} {n : Nat} {H : Hp} {N : List Str} {vs : List V} {ds : List D} (h0 : c.H0 = H) (vi : VI c.K c.dk n H) (lo : ∀ a, c.O a → H a ≠ none) (dko : ∀ a, IsDk c.dk a → c.O a) (hg : c.gh = []) (hh : c.hid = []) (r : RpL c.K c.dk H c.O vs ds)
    (hl : vs.length ≤ N.length) : ER c (fun _ => none) (envOf N.length ds) n (L2.start N vs) H := by
  have av : ∀ a, AV c (fun _ => none) a → c.O a := by
    rintro a (z | z | ⟨_, z⟩ | z)
    · exact z
    · exact dko a z
    · cases z
    · rw [hh] at z; cases z
  have len := r.length
  refine ⟨vi, by rw [h0]; exact Ext.refl, ⟨n, by rw [h0]; exact vi⟩, by rw [h0]; exact lo, fun i d e => ?_, fun i d e => ?_, fun i p e => (by cases e), fun i j p e => (by cases e), by simp [L2.start, envOf, len], fun p e => (by rw [hg] at e; cases e), fun a e => (by rw [hh] at e; cases e)⟩
  · unfold envOf at e
    by_cases hi : i < ds.length
    · rw [List.getElem?_append_left (by simpa using hi), List.getElem?_map] at e
      cases q : ds[i]? with
      | none => rw [q] at e; cases e
      | some d' =>
        rw [q] at e
        cases e
        obtain ⟨v, h1, h2⟩ := r.getD q
        refine ⟨v, ?_, h2.less av⟩
        unfold L2.start
        rw [List.getElem?_append_left (by simp; omega), List.getElem?_map, h1]
        rfl
    · rw [List.getElem?_append_right (by simpa using hi), List.getElem?_replicate] at e
      split at e <;> cases e
  · unfold envOf at e
    by_cases hi : i < ds.length
    · rw [List.getElem?_append_left (by simpa using hi), List.getElem?_map] at e
      cases q : ds[i]? with
      | none => rw [q] at e; cases e
      | some d' => rw [q] at e; cases e
    · rw [List.getElem?_append_right (by simpa using hi), List.getElem?_replicate] at e
      split at e <;> cases e
/-- THE RULE for a def -/
theorem fok {x qual : Str} {st : Stmt} {f : Addr} {fd : FuncData} {N ps : List Str} {t : DS} {np : Nat} (F : Fun K x qual st f fd) (S : FnScope N ps (defScope st)) (hx : mg x = some (.ref f)) (hb : Binds K fd ps []) (hnp : ps.length = np) (hN : np ≤ N.length)
    (body : ∀ (X : Cx) (c : Cn), c.K = K → c.mg = mg → Gd P w base k N (defScope st) X c → FnC X → PassesOwn (model X.prog X.w) X.A X.env X.xe → PSs X (defBody st) (tS c t)) :
    FOk P w K mg base (k + 1) ⟨x, np, defM N.length t⟩ := by
  subst hnp
  refine ⟨f, fd, ps, hx, F.okX S (fun vs H Q E h => h.1) (fun cdv A outer s H vs Q E hr h => ?_), F.kp, hb⟩
  obtain ⟨hl, ds, A0, dk, n, r, lo, dko, vi, Qd, Xd, q, xlf, hQ, hX⟩ := h
  let c : Cn := { K := K, mg := mg, dk := dk, H0 := H, O := A0, W := fun cls od _ H' => E cls od H', Xq := fun _ => Xd, gh := [], hid := [] }
  have G : Gd P w base k N (defScope st) (cxOf (L2.CX P w) P w K mg base N qual (defScope st) f cdv A outer s H E) c :=
    { nd := S.nd, prog := rfl, w := rfl, base := rfl, N := rfl, sc := rfl, K := rfl, mg := rfl, calm := rfl, room := hr, takes := takes_of rfl rfl rfl rfl,
      link := fun own env n' σ H' xd cls od R x q => by
        obtain ⟨C, x1, x2, x3⟩ := x
        refine hX xd n' cls od H' q R.ext R.vi ⟨C, x1, x2, ?_⟩
        rcases x3 with x3 | ⟨d, fs, y1, y2, y3, y4⟩
        · exact .inl x3
        · exact .inr ⟨d, fs, y1, y2, y3, y4.less fun _ z => .inl z⟩
      xlf := fun xd _ n' q => xlf xd n' q }
  refine ⟨_, body _ c rfl rfl G ⟨fun _ => rfl⟩ (passes_of rfl), ?_⟩
  refine ⟨_, _, n, er_start (c := c) rfl vi lo dko rfl rfl r (by rw [hl]; exact hN), { nx := fun _ n' => Qd .non n', rt := Qd }, ⟨fun own env n' σ H' q R => ?_, fun _ _ _ _ _ q => q.elim, fun _ _ _ _ _ q => q.elim, fun d n' v H' q e vi' r' => ?_⟩, q⟩
  · exact hQ .non n' .non H' q R.ext R.vi .non
  · exact hQ d n' v H' q e vi' (r'.less fun _ z => .inl z)
end

/-! ### the law's def -/
/-- its context -/
structure Top (P : Program) (w : World) (base : Heap) (k : Nat) (N : List Str) (sc : Scope) (K : PySem.W.Frag) (mg : Str → Option Value) (X : Cx) : Prop where
  nd : N.Nodup
  prog : X.prog = P
  w : X.w = w
  base : X.base = base
  N : X.N = N
  sc : X.env.scope = sc
  K : X.K = K
  mg : X.mg = mg
  calm : X.calm = true
  room : Room k X.A
  guards : X.A.guards = some []
  fn : FnC X
  pass : PassesOwn (model X.prog X.w) X.A X.env X.xe
theorem Top.gd {P : Program} {w : World} {base : Heap} {k : Nat} {N : List Str} {sc : Scope} {K : PySem.W.Frag} {mg : Str → Option Value} {X : Cx} {c : Cn} (T : Top P w base k N sc K mg X) (hK : c.K = K) (hm : c.mg = mg) (hW : c.W = fun _ _ _ _ => False) (hX : c.Xq = fun _ _ _ => False) : Gd P w base k N sc X c :=
  { nd := T.nd, prog := T.prog, w := T.w, base := T.base, N := T.N, sc := T.sc, K := T.K.trans hK.symm, mg := T.mg.trans hm.symm, calm := T.calm, room := T.room, takes := by rw [hW]; exact takes0,
    link := fun _ _ _ _ _ _ _ _ _ _ q => by rw [hX] at q; exact q.elim, xlf := fun _ _ _ q => by rw [hX] at q; exact q.elim }
/-- what the script's heap is like -/
def scrH (K : PySem.W.Frag) (a : Addr) (us : List Value) (ns : List Int) : Hp := fun b => match K.lookup a with
  | none => if b = a then some (.frz { cls := .type "list", data := .seq us.toArray } (.lst (ns.map V.int))) else none
  | some _ => none
theorem top_law {l : PySem.W.OpenLaw} {n k : Nat} {q : Program} {loose : List Str} {XP : (Str → Option Value) → Heap → Prop} {YP : World → Heap → Prop} {d : DefRec} {K : Params → PySem.W.Frag} {x qual : Str} {st : Stmt} {N : List Str}
    (hn : l.most = some n) (hn2 : n ≤ sizeLine) (hdf : d.params.defaults = []) (hr : Room (k + 1) callerA) (S : FnScope N [x] (defScope st)) (hY : ∀ (w : World) (h : Heap), YP w h → (K w.params).In h)
    (F : ∀ (w : World) (mg : Str → Option Value) (fa : Addr) (h : Heap), (K w.params).In h → h.Ns mainGlobals mg → mg d.name = some (.ref fa) →
      ∃ (y : Str) (fd : FuncData), Fun (K w.params) y qual st fa fd ∧ (∀ (s : Shared) (u : Value), BindsTo s fd ⟨[u], []⟩ [(x, u)]) ∧
        ∀ base : Heap, (K w.params).In base → base.Ns mainGlobals mg → ∀ (X : Cx) (a : Addr) (ns : List Int) (H : Hp), Top l.prog w base k N (defScope st) (K w.params) mg X → ns.length ≤ n → SqL (K w.params) H a (ns.map V.int) →
          ∃ t, PSs X (defBody st) t ∧ t { nx := fun _ _ => False, rt := fun v _ => v = .bl true } (L2.start N [.ref a]) H) :
    PySem.W.WalkO q loose XP YP l.row.toRowW d [] (fun f vs => PySem.call f vs) := by
  refine Att.attach_call hn hdf fun w s0 s1 mg mb fa ob pmv cdw docv a us ns G hYP hob hdt hcr hmg hscr hnum hle hgen => ?_
  have kin1 := hY w _ hYP
  obtain ⟨y, fd, FF, hbi, hB⟩ := F w mg fa _ kin1 G.T.g hmg
  have rvs := vals_ints hnum
  have lns : us.length = ns.length := hnum.length
  generalize hHe : scrH (K w.params) a us ns = Hs
  have hs1 : ∀ b, Hs b ≠ none → b = a ∧ (K w.params).lookup a = none ∧ Hs b = some (.frz { cls := .type "list", data := .seq us.toArray } (.lst (ns.map V.int))) := by
    intro b hb
    rw [← hHe] at hb ⊢
    unfold scrH at hb ⊢
    split at hb
    · split at hb
      · rename_i h1 h2
        exact ⟨h2, h1, by simp only [h1, h2, if_true]⟩
      · exact absurd rfl hb
    · exact absurd rfl hb
  have seqS : SqL (K w.params) Hs a (ns.map V.int) := by
    cases kl : (K w.params).lookup a with
    | none =>
      refine .inl (.inr ⟨{ cls := .type "list", data := .seq us.toArray }, ?_⟩)
      rw [← hHe]
      simp only [scrH, kl, if_true]
    | some o =>
      have e1 := kin1 a o kl
      rw [hscr] at e1
      cases e1
      exact .inr ⟨_, us.toArray, _, kl, rfl, rfl, rfl, by rw [List.size_toArray, lns]; omega, by simpa using rvs⟩
  have hok1 : HOk l.prog w Hs s1.heap := fun b u e => by
    obtain ⟨e1, e2, e3⟩ := hs1 b (by rw [e]; simp)
    rw [e] at e3
    cases e3
    subst e1
    exact ⟨hscr, by rw [List.length_map]; omega, us, _, rvs, hscr⟩
  have off : ∀ {b : Addr} {o : Obj}, s1.heap.get? b = some o → (∃ es ep, o.data = .dict es ep) → Hs b = none := fun {b o} e ⟨es, ep, e2⟩ => by
    cases z : Hs b with
    | none => rfl
    | some u =>
      obtain ⟨z1, _⟩ := hs1 b (by rw [z]; simp)
      rw [z1, hscr] at e
      cases e
      exact Data.noConfusion (show Data.seq us.toArray _ = Data.dict es ep from e2)
  have nsB : ∀ {b : Addr} {m : Str → Option Value}, s1.heap.Ns b m → (hidT s1.heap Hs).Ns b m := fun {b m} z => by
    obtain ⟨o, es, ep, z1, z2, z3⟩ := z
    exact ⟨o, es, ep, hidT_get z1 (off z1 ⟨es, ep, z2⟩), z2, z3⟩
  have kinB : (K w.params).In (hidT s1.heap Hs) := fun b o e => hidT_get (kin1 b o e) (by
    cases z : Hs b with
    | none => rfl
    | some u =>
      obtain ⟨z1, z2, _⟩ := hs1 b (by rw [z]; simp)
      rw [z1, z2] at e
      cases e)
  have modB : Mod (K w.params) mg (hidT s1.heap Hs) := ⟨kinB, nsB G.T.g, ⟨mb, nsB G.T.b, G.T.builtins⟩, let ⟨mc, z1, z2⟩ := G.T.nolimit; ⟨mc, nsB z1, z2⟩⟩
  have env0 : Env0 l.prog w (K w.params) mg (hidT s1.heap Hs) callerA [] s1 Hs :=
    ⟨rfl, modB, fun b o e => of_hidT e, by rw [hidT_size]; exact Nat.le_refl _, trivial, fun b hb => (by cases hb), hok1, .of_eq hgen⟩
  obtain ⟨oc, od, kV, doc, pm, an, cdv, ct, osl, e1, lk, hcd⟩ := FF.ex
  subst e1
  have lim : s1.heap.NoLimit := G.T.nolimit
  have parK : ∀ z ∈ ([x] : List Str).zip [Value.ref a], (defScope st).names.lookup z.1 = some .local ∨ ((defScope st).names.lookup z.1 = some .cell ∧ ((cellsFrom (s1.heap.objs.size + 1) (defScope st).names []).lookup z.1).isSome = true) := fun z hz => by
    rcases S.par z.1 (List.of_mem_zip hz).1 with z1 | z1
    · exact .inl z1
    · exact .inr ⟨z1, PySem.W.cellsFrom_some _ _ _ (.inl z1)⟩
  refine codeAny_call_function hr.depth (kin1 _ _ lk) rfl S.co S.gen rfl (PySem.W.codeRec_of kin1 hcd) (hbi _ _ _ _ _ _ ?_)
  refine wpAny_newFunctionEnv_cells S.kind parK fun env he s2 xx => ?_
  subst he
  refine ⟨lim.keeps xx.toInCall.keep, codeAny_func ?_⟩
  have I := inv_start (CX := CX0) (E := fun _ _ _ => False) (vs := [V.ref a]) S hr.hd env0 rfl (.cons rfl .nil) xx
  obtain ⟨t, ht, hq⟩ := hB _ kinB (nsB G.T.g) (cxOf CX0 l.prog w (K w.params) mg (hidT s1.heap Hs) N qual (defScope st) fa cdv callerA [] s1 Hs fun _ _ _ => False) a ns Hs
    { nd := S.nd, prog := rfl, w := rfl, base := rfl, N := rfl, sc := rfl, K := rfl, mg := rfl, calm := rfl, room := hr.deeper _, guards := rfl, fn := ⟨fun _ => rfl⟩, pass := passes_of rfl } hle seqS
  refine wpAny_mono (ht.run [] s2 _ Hs _ I hq) (fun fl s3 hs => ?_) fun e s3 hs => wpAny_mono hs (fun _ _ f => f.elim) fun _ _ f => f.elim
  cases fl with
  | ret u =>
    obtain ⟨v, σ', H', J, rv, q1⟩ := hs
    have q1 : v = .bl true := q1
    subst q1
    obtain rfl : u = Value.bool true := rv
    have un : Un (frs []) [] Hs H' s1.heap s3.heap := J.base
    refine ⟨rfl, OldK.of_keep fun b o e => ?_, J.os, J.bare⟩
    cases z : Hs b with
    | none => exact un.keep b o e z (fun z => by cases z) fun z => by cases z
    | some u =>
      obtain ⟨_, _, z3⟩ := hs1 b (by rw [z]; simp)
      have z4 := un.frzs b _ _ z3
      have o1 := (hok1 b _ z3).1
      have o2 := (J.hok b _ z4).1
      rw [e] at o1
      cases o1
      exact o2
  | next => obtain ⟨_, _, _, f⟩ := hs; exact f.elim
  | brk => obtain ⟨_, _, _, f⟩ := hs; exact f.elim
  | cont => obtain ⟨_, _, _, f⟩ := hs; exact f.elim
end DL

/-! part thirteen: what is shown; the deck -/
namespace DL
open PySem PySem.Spec L2

/-! ### repr -/
def shw (d : D) : Str := (py d).shown
def shOk (d : D) : Bool := okD d && (py d).showable && decide ((py d).depth ≤ 60) && decide ((shw d).length ≤ sizeLine) && PyData.strOk (shw d)
def reprD (d : D) : Mo D := need (shOk d = true) (ret (.str (shw d)))
mutual
theorem okD_noDict : ∀ {d : D}, okD d = true → (py d).hasDict = false
  | .non, _ => rfl
  | .bl _, _ => rfl
  | .int _, _ => rfl
  | .str _, _ => rfl
  | .tup l, h => by
    have := okL_noDict (l := l) (by simpa [okD] using h)
    simpa [py, PyData.hasDict] using this
  | .lst l, h => by
    have := okL_noDict (l := l) (by simpa [okD] using h)
    simpa [py, PyData.hasDict] using this
  | .dct _ _, h => by simp [okD] at h
  | .deck, h => by simp [okD] at h
  | .obj _, h => by simp [okD] at h
theorem okL_noDict : ∀ {l : List D}, okL l = true → PyData.hasDictAll (pyL l) = false
  | [], _ => rfl
  | d :: l, h => by
    simp only [okL, Bool.and_eq_true] at h
    have h1 := okD_noDict h.1
    have h2 := okL_noDict h.2
    simp [pyL, PyData.hasDictAll, h1, h2]
end
def rRepr (K : PySem.W.Frag) : List V → Hp → VK → Prop := fun xs H Q => ∃ x d, xs = [x] ∧ Dp K H x d ∧ d.showable = true ∧ d.hasDict = false ∧ d.depth ≤ 60 ∧ d.shown.length ≤ sizeLine ∧ Q (.str d.shown) H
theorem call_reprA {X : Cx} (hg : X.A.guards = some []) (hu : X.A.units + 150 < cLine) : CallR X (.builtin "repr") (rRepr X.K) := by
  intro pins s σ H xs us Q I r h
  obtain ⟨x, d, e1, hd, h1, h2, h3, h4, q⟩ := h
  subst e1
  obtain ⟨u, e2, ru⟩ := vals1 r
  subst e2
  obtain ⟨as, rd⟩ := Dp.reads I d x u hd ru
  cases rd with
  | none => exact PySem.P.repr_of_none ⟨.str _, H, I.tok _, ⟨_, rfl⟩, q⟩
  | bool b => exact PySem.P.repr_of_bool ⟨.str _, H, I.tok _, ⟨_, rfl⟩, q⟩
  | int i t => exact PySem.P.repr_of_int (by simpa [PyData.showable] using h1) ⟨.str _, H, I.tok _, ⟨_, rfl⟩, q⟩
  | str z t => exact PySem.P.repr_of_str ⟨.str _, H, I.tok _, ⟨_, rfl⟩, q⟩ h4
  | list a1 a2 a3 a4 => exact repr_of_reads' (.list a1 a2 a3 a4) h1 (fun e => by rw [h2] at e; cases e) hg (by omega) (fun _ _ e => e) (fun h' u tk hk => ⟨.str _, H, I.kept hk, ⟨_, rfl⟩, q⟩) h4
  | tuple a1 a2 a3 a4 => exact repr_of_reads' (.tuple a1 a2 a3 a4) h1 (fun e => by rw [h2] at e; cases e) hg (by omega) (fun _ _ e => e) (fun h' u tk hk => ⟨.str _, H, I.kept hk, ⟨_, rfl⟩, q⟩) h4
  | dict a1 a2 a3 a4 a5 => simp [PyData.hasDict] at h2
section
variable {P : Program} {w : World} {base : Heap} {k : Nat} {N : List Str} {sc : Scope} {X : Cx} {c : Cn} {ma : Md}
theorem o_repr : OpC c ma .s (rRepr c.K) reprD := by
  intro own env n σ H0 H x a Q R ra g
  obtain ⟨h, g⟩ := g.need'
  simp only [shOk, Bool.and_eq_true, decide_eq_true_eq] at h
  obtain ⟨⟨⟨⟨h1, h2⟩, h3⟩, h4⟩, h5⟩ := h
  exact ⟨x, py a, rfl, (Rw.dp h1 (R.weak ra)).1, h2, okD_noDict h1, h3, h4, g.done R (Rp.str h5)⟩
theorem c_repr (G : Gd P w base k N sc X c) (hg : X.A.guards = some []) : CalX X c (.builtin "repr") .s reprD := ⟨_, call_reprA hg G.hu, fun _ => by rw [G.K]; exact o_repr⟩
end

/-! ### the draw -/
def drawM : MD := fun ds => match ds with
  | [.deck, .int m] => drawD m
  | _ => stop
/-- what its text needs of the deck, what it leaves -/
theorem draw_end {K : PySem.W.Frag} {mg : Str → Option Value} {vs : List V} {H : Hp} {Q : VK} {E : XK} (h : spD K mg 2 drawM vs H Q E) : ∃ (p s : Addr) (ns : List Int) (i l j m : Int), vs = [.ref p, .int m] ∧ s ≠ p ∧ H p = some (.lst [.ref s, .int i, .int l, .int j]) ∧ H s = some (.lst (ns.map V.int)) ∧
    ns.length ≤ 63 ∧ 0 ≤ i ∧ 0 ≤ l ∧ 0 ≤ j ∧ j + 1 ≤ most ∧ 0 < m ∧ m < 1073741824 ∧
    ∀ (H' : Hp) (i' l' r : Int), H' p = some (.lst [.ref s, .int i', .int l', .int (j + 1)]) → (∀ a o, a ≠ p → H a = some o → H' a = some o) → 0 ≤ i' → 0 ≤ l' → 0 ≤ r → r < m → Q (.int r) H' := by
  obtain ⟨hl, ds, A, dk, n, r, lo, dko, vi, Qd, Xd, q, xlf, hQ, hX⟩ := h
  unfold drawM at q
  split at q
  · rename_i m
    cases r with
    | cons r1 r =>
      cases r with
      | cons r2 r =>
        cases r
        cases r1
        rename_i p s e
        cases r2
        obtain ⟨ns, i, l, j, h1, h2, h3, h4, h5, h6, h7, h8⟩ := vi p s e
        obtain ⟨q1, q2, q3, q4⟩ := q
        refine ⟨p, s, ns, i, l, j, m, rfl, h2, h1, h3, h4, h5, h6, h7, by omega, q2, q3, fun H' i' l' r g1 g2 g3 g4 g5 g6 => ?_⟩
        refine hQ (.int r) (n - 1) (.int r) H' (q4 r g5 g6) (fun a o ha => ?_) (fun p' s' e' => ?_) (.int r)
        · by_cases ea : a = p
          · exact .inl ⟨p, s, e, .inl ea⟩
          · exact .inr (g2 a o ea ha)
        · rw [e] at e'
          cases e'
          exact ⟨ns, i', l', j + 1, g1, h2, g2 s _ h2 h3, h4, g3, g4, by omega, by omega⟩
  · exact q.elim
/-- sizes of what is mixed -/
theorem mix1 {a j : Int} (h0 : 0 ≤ j) (h1 : j + 1 ≤ most) : (a % 2147483579 + 73856093 * (j + 1)).natAbs < 2 ^ 64 := by
  have h2 := Int.emod_nonneg a (show (2147483579 : Int) ≠ 0 by decide)
  have h3 := Int.emod_lt_of_pos a (show (0 : Int) < 2147483579 by decide)
  unfold most at h1
  omega
theorem mix2 {a j : Int} (h0 : 0 ≤ j) (h1 : j + 1 ≤ most) : (a % 2147483629 * (2 * (j + 1) + 7) + 6151).natAbs < 2 ^ 64 := by
  have h2 := Int.emod_nonneg a (show (2147483629 : Int) ≠ 0 by decide)
  have h3 := Int.emod_lt_of_pos a (show (0 : Int) < 2147483629 by decide)
  unfold most at h1
  have h4 : 0 ≤ a % 2147483629 * (2 * (j + 1) + 7) := Int.mul_nonneg h2 (by omega)
  have h5 : a % 2147483629 * (2 * (j + 1) + 7) ≤ 2147483629 * 2000000007 := Int.mul_le_mul (by omega) (by omega) (by omega) (by omega)
  have h6 : (2147483629 * 2000000007 : Int) = 4294967273032385403 := by decide
  omega
end DL
namespace DL
open PySem PySem.Spec L2
theorem ints_dpL {K : PySem.W.Frag} {H : Hp} : ∀ ns : List Int, DpAll K H (ns.map V.int) (ns.map PyData.int)
  | [] => .nil
  | n :: ns => .cons (.int n) (ints_dpL ns)
theorem ints_dp {K : PySem.W.Frag} {H : Hp} {s : Addr} {ns : List Int} (h : H s = some (.lst (ns.map V.int))) : Dp K H (.ref s) (.list (ns.map PyData.int)) := .lst (SqL.of h) (ints_dpL ns)
theorem shaped_ints (ns : List Int) : SeqAt.shaped (.list (ns.map PyData.int)) = true := by
  have h1 : ∀ ns : List Int, PyData.canLayAll0 (ns.map PyData.int) = true ∧ PyData.depthAll (ns.map PyData.int) = 0 := fun ns => by
    induction ns with
    | nil => exact ⟨rfl, rfl⟩
    | cons n ns ih => exact ⟨by simp [PyData.canLayAll0, PyData.canLay0, ih.1], by simp [PyData.depthAll, PyData.depth, ih.2]⟩
  unfold SeqAt.shaped
  simp [PyData.canLay0, PyData.depth, (h1 ns).1, (h1 ns).2]
end DL
namespace DL
open PySem PySem.Spec L2
theorem draw_cell {ns : List Int} {i : Int} (hi : 0 ≤ i) (hpos : 0 < (ns.length : Int)) : ∃ z, atI (ns.map V.int) (i % (ns.length : Int)) = some (.int z) := by
  have h1 := Int.emod_nonneg i (show (ns.length : Int) ≠ 0 by omega)
  have h2 := Int.emod_lt_of_pos i hpos
  obtain ⟨m, hm⟩ := Int.eq_ofNat_of_zero_le h1
  have hl : m < ns.length := by omega
  refine ⟨ns[m], ?_⟩
  rw [hm]
  exact atI_nat (by rw [List.getElem?_map, List.getElem?_eq_getElem hl]; rfl)
end DL
namespace DL
theorem small_mod {a m : Int} (h : 0 < m) (h2 : m < 2 ^ 64) : -(2 ^ 64) < a % m ∧ a % m < 2 ^ 64 := by
  have h3 := Int.emod_nonneg a (show m ≠ 0 by omega)
  have h4 := Int.emod_lt_of_pos a h
  exact ⟨by omega, by omega⟩
end DL

/-! part fourteen: more rules to be printed: comprehensions, loops, texts put together, max with a default -/
namespace DL
open PySem PySem.Spec L2
section
variable {P : Program} {w : World} {base : Heap} {k : Nat} {N : List Str} {sc : Scope} {X : Cx} {c : Cn}

/-! ### statements -/
section
variable {e : Expr} {te : DE} {i : Nat} {x : Str} {pos pos' apos : Pos} {body rest : List Stmt} {b : DS}
theorem s_app (G : Gd P w base k N sc X c) (h : nameOk N sc i x = true) (he : PE X e (tX c .s te)) (hfew : ((backTo pos (starEach [e] X.env)).all (fun x => !x.1) && (backToKw pos (keywordEach [] X.env)).all (fun x => x.1.isSome) && decide (([e] : List Expr).length + ([] : List Keyword).length + (if ([] : List Keyword).isEmpty then 0 else 1) < 30)) = true)
    (hline : (apos.endLine == pos.line) = true) (hs : starEach [e] X.env = (false, eval e X.env) :: starEach [] X.env) {p0 p1 : Pos} : PS X (.Expr (.Call (.Attribute (.Name x p0) "append" apos) [e] [] pos) p1) (tS c (appS i te)) :=
  PS.imp (ps_expr (pe_bm PySem.F.plainAttrs_list PySem.F.slot_list_append PySem.F.type_list_append mt_append (pe_v G h) (pa_cons he pa_nil hs) rfl hfew hline hs rfl) rfl) fun D σ H q => by rw [G.K]; exact r_app q
theorem s_ext (G : Gd P w base k N sc X c) (h : nameOk N sc i x = true) (he : PE X e (tX c .w te)) (hfew : ((backTo pos (starEach [e] X.env)).all (fun x => !x.1) && (backToKw pos (keywordEach [] X.env)).all (fun x => x.1.isSome) && decide (([e] : List Expr).length + ([] : List Keyword).length + (if ([] : List Keyword).isEmpty then 0 else 1) < 30)) = true)
    (hline : (apos.endLine == pos.line) = true) (hs : starEach [e] X.env = (false, eval e X.env) :: starEach [] X.env) {p0 p1 : Pos} : PS X (.Expr (.Call (.Attribute (.Name x p0) "extend" apos) [e] [] pos) p1) (tS c (extS i te)) :=
  PS.imp (ps_expr (pe_bm PySem.F.plainAttrs_list PySem.F.slot_list_extend PySem.F.type_list_extend mt_extAll (pe_v G h) (pa_cons he pa_nil hs) rfl hfew hline hs rfl) rfl) fun D σ H q => by rw [G.K]; exact r_ext q
theorem s_put (G : Gd P w base k N sc X c) {kk v : Expr} {tk tv : DE} (h : nameOk N sc i x = true) (hk : PE X kk (tX c .w tk)) (hv : PE X v (tX c .s tv)) {p0 p1 p2 : Pos} (hs : swapsWith v (some (.Subscript (.Name x p0) kk p1)) p2.line X.env = pure false) :
    PS X (.Assign [.Subscript (.Name x p0) kk p1] v p2) (tS c (putS i tk tv)) :=
  PS.imp (ps_dput (by have := G.hu; omega) (pe_v G h) hk hv hs) fun D σ H q => r_put q
theorem s_forG (G : Gd P w base k N sc X c) (hp : PassesOwn (model X.prog X.w) X.A X.env X.xe) {tge iter : Expr} {tg : Tg} (ks : List Nat) {it : DI} (hi : PI X tge iter (tI c it)) (hg : PG X tge (gT X.K tg)) (hs : ∀ x, foldedSetIterable iter X.env x = pure x)
    (hb : ∀ gh, Gd P w base k N sc X (c.wg gh []) → PSs X body (tS (c.wg gh []) b)) : PS X (.For tge iter body [] pos) (tS c (forS tg ks it b)) := s_for G.K hp G.calm hi hg (fun gh => hb gh G.wg) hs
end

/-! ### comprehensions -/
section
variable {elt tge iter : Expr} {ifs : List Expr} {scope : Scope} {pos : Pos} {tg : Tg} {it : DI} {tt te : DE}
theorem e_lc (G : Gd P w base k N sc X c) (own : List (Str × Nat)) (hi : PI X tge iter (tI c it)) (ok : blkC N sc scope own = true) (hsl : (slotsT tg).all (fun i => (own.map (·.2)).contains i) = true) (hs : ∀ x, foldedSetIterable iter X.env x = pure x)
    (hg : ∀ (X' : Cx) (c' : Cn), Gd P w base k N (relS scope sc) X' c' → X'.A = X.A → X'.fn = (fun x => scope.names.lookup x == some .cell) → PG X' tge (gT X'.K tg))
    (ht : ∀ (X' : Cx) (c' : Cn), c'.K = c.K → c'.mg = c.mg → Gd P w base k N (relS scope sc) X' c' → X'.A = X.A → PTs X' ifs (tT c' tt))
    (he : ∀ (X' : Cx) (c' : Cn), c'.K = c.K → c'.mg = c.mg → Gd P w base k N (relS scope sc) X' c' → X'.A = X.A → PE X' elt (tX c' .s te)) : PE X (.ListComp elt [⟨tge, iter, ifs, 0⟩] scope pos) (tX c .f (lcT tg it tt te (own.map (·.2)))) := by
  refine PE.imp (pe_lc (g := gT X.K tg) G.calm (by rw [G.N]; exact G.nd) hi (own := own) (by rw [G.N, G.sc]; exact blkOk_by ok)
    (fun s H C cl fp => by have := hg _ _ (G.blk (gh := []) (L := 0) (scope := scope) (s := s) (H := H) (C := C) (cl := cl) (fp := fp)) rfl rfl; exact this)
    (fun s H C cl fp => pt_any fun gh L => ht _ _ rfl rfl G.blk rfl) (fun s H C cl fp => pe_any fun gh L => he _ _ rfl rfl G.blk rfl) hs) fun σ H Q q => ?_
  rw [G.K]
  exact r_lc (fun i hi => by
    have := List.all_eq_true.mp hsl i hi
    simpa using this) q
/-- name = [..] on one line -/
theorem s_lc {i : Nat} {y : Str} {py spos : Pos} {own' : Bool} (G : Gd P w base k N sc X c) (hloc : isLoc sc y = true) (hN : N[i]? = some y) (own : List (Str × Nat)) (hsw : swapsWith (.ListComp elt [⟨tge, iter, ifs, 0⟩] scope pos) (some (.Name y py)) spos.line X.env = pure true)
    (hi : PI X tge iter (tI c it)) (ok : blkC N sc scope own = true) (hsl : (slotsT tg).all (fun i => (own.map (·.2)).contains i) = true) (hs : ∀ x, foldedSetIterable iter X.env x = pure x)
    (hg : ∀ (X' : Cx) (c' : Cn), Gd P w base k N (relS scope sc) X' c' → X'.A = X.A → X'.fn = (fun x => scope.names.lookup x == some .cell) → PG X' tge (gT X'.K tg))
    (ht : ∀ (X' : Cx) (c' : Cn), c'.K = c.K → c'.mg = c.mg → Gd P w base k N (relS scope sc) X' c' → X'.A = X.A → PTs X' ifs (tT c' tt))
    (he : ∀ (X' : Cx) (c' : Cn), c'.K = c.K → c'.mg = c.mg → Gd P w base k N (relS scope sc) X' c' → X'.A = X.A → PE X' elt (tX c' .s te)) :
    PS X (.Assign [.Name y py] (.ListComp elt [⟨tge, iter, ifs, 0⟩] scope pos) spos) (tS c (if own' then asgO i (lcT tg it tt te (own.map (·.2))) else asgS i (lcT tg it tt te (own.map (·.2))))) := by
  refine PS.imp (ps_setLc (g := gT X.K tg) G.calm (by rw [G.N]; exact G.nd) (by rw [G.N]; exact hN) (by rw [G.sc]; exact isLoc_of hloc) hsw hi (own := own) (by rw [G.N, G.sc]; exact blkOk_by ok)
    (fun s H C cl fp => by have := hg _ _ (G.blk (gh := []) (L := 0) (scope := scope) (s := s) (H := H) (C := C) (cl := cl) (fp := fp)) rfl rfl; exact this)
    (fun s H C cl fp => pt_any fun gh L => ht _ _ rfl rfl G.blk rfl) (fun s H C cl fp => pe_any fun gh L => he _ _ rfl rfl G.blk rfl) hs) fun D σ H q => ?_
  rw [G.K]
  have hsl' : ∀ i ∈ slotsT tg, i ∈ own.map (·.2) := fun i hi => by
    have := List.all_eq_true.mp hsl i hi
    simpa using this
  have imp : ∀ {md : Md} {t : TE} (h : ∀ σ H Q, tX c md (lcT tg it tt te (own.map (·.2))) σ H Q → t σ H Q), tAsg (tX c md (lcT tg it tt te (own.map (·.2)))) (gName i) D σ H → tAsg t (gName i) D σ H := fun h q => h _ _ _ q
  cases own' with
  | true => exact imp (fun _ _ _ q => r_lc hsl' q) (r_asgO q)
  | false => exact imp (fun _ _ _ q => r_lc hsl' (tX.ofF q)) (r_asg q)
theorem sw_lc {y : Str} {py : Pos} {l : Nat} (G : Gd P w base k N sc X c) (hk : sc.kind = .function) (hloc : isLoc sc y = true) (hl : (py.line == pos.line) = true) (ha : (scope.names.any fun (n, k) => n == y && (k == .local || k == .cell)) = false) :
    swapsWith (.ListComp elt [⟨tge, iter, ifs, 0⟩] scope pos) (some (.Name y py)) l X.env = pure true := sw_true (by rw [G.sc]; exact hk) (by rw [G.sc]; exact isLoc_of hloc) hl ha
theorem t_ifs1 {e : Expr} (h : PT X e (tT c tt)) : PTs X [e] (tT c tt) := pts_one h
end

/-! ### an empty dict; texts put together -/
theorem e_dict0 {pos : Pos} : PE X (.Dict [] [] pos) (tX c .f (kD (.dct [] []))) := PE.imp pe_dnewK fun σ H Q q => by
  obtain ⟨own, env, n, R, g⟩ := q
  exact fun p hp => g.newD (kvs := []) R hp rfl .nil
def strL : List D → Option (List Str)
  | [] => some []
  | .str s :: l => (strL l).map (s :: ·)
  | _ => none
theorem strL_eq : ∀ {l : List D} {ys : List Str}, strL l = some ys → l = ys.map D.str
  | [], _, h => by cases h; rfl
  | d :: l, ys, h => by
    cases d with
    | str s =>
      simp only [strL] at h
      cases e : strL l with
      | none => rw [e] at h; cases h
      | some zs => rw [e] at h; cases h; rw [List.map_cons, ← strL_eq e]
    | _ => simp [strL] at h
theorem strL_map (ys : List Str) : strL (ys.map D.str) = some ys := by
  induction ys with
  | nil => rfl
  | cons y ys ih => simp [strL, ih]
theorem strL_of {K : PySem.W.Frag} {dk : DkT} {H : Hp} {A : Addr → Prop} : ∀ {ys : List Str} {xs : List V}, RpL K dk H A xs (ys.map D.str) → xs = ys.map V.str ∧ ∀ y ∈ ys, PyData.strOk y = true
  | [], _, .nil => ⟨rfl, fun _ h => by cases h⟩
  | y :: ys, _, .cons r t => by
    obtain ⟨h1, h2⟩ := strL_of t
    cases r with
    | str h =>
      refine ⟨by rw [h1]; rfl, fun z hz => ?_⟩
      rcases List.mem_cons.mp hz with e | hz
      · rw [e]; exact h
      · exact h2 z hz
def joinD (s : Str) (b : D) : Mo D := match rowD b with
  | some l => match strL l with
    | some ys => need ((ys.map (·.length)).sum + ys.length * s.length ≤ 16777216 ∧ PyData.strOk (Txt.join s ys) = true) (ret (.str (Txt.join s ys)))
    | none => stop
  | none => stop
theorem Rw.row {K : PySem.W.Frag} {dk : DkT} {H : Hp} {A : Addr → Prop} {v : V} {d : D} {l : List D} (h : Rw K dk H A v d) (e : rowD d = some l) : ∃ a xs, v = .ref a ∧ (SqL K H a xs ∨ SqT K H a xs) ∧ RpL K dk H A xs l := by
  cases d with
  | lst m =>
    cases e
    obtain ⟨p, xs, e1, n1, s1, r1⟩ := h
    exact ⟨p, xs, e1, .inl (SqL.of s1), r1⟩
  | tup m =>
    cases e
    obtain ⟨p, xs, e1, s1, r1⟩ := Rw.tup' h
    exact ⟨p, xs, e1, .inr s1, r1⟩
  | _ => simp [rowD] at e
theorem e_join {s : Str} {e : Expr} {te : DE} {me : Md} {apos pos opos : Pos} {j : Nat} (G : Gd P w base k N sc X c) (he : PE X e (tX c me te)) (hs : starEach [e] X.env = [(false, eval e X.env)]) (hbase : attributeBase (.Constant (.str s) j opos) "join" X.env (eval (.Constant (.str s) j opos) X.env) = eval (.Constant (.str s) j opos) X.env) (hline : (apos.endLine == pos.line) = true) :
    PE X (.Call (.Attribute (.Constant (.str s) j opos) "join" apos) [e] [] pos) (tX c .s (un1 te (joinD s))) := by
  refine PE.imp (pe_join pe_str he hs hbase hline) fun σ H Q q => ?_
  refine ⟨⟨s, rfl⟩, op1_tX (r := fun y H Q => ∃ a p, ∃ ys : List Str, V.str s = .str a ∧ [y] = [.ref p] ∧ (SqL X.K H p (ys.map V.str) ∨ SqT X.K H p (ys.map V.str)) ∧ (ys.map (·.length)).sum + ys.length * a.length ≤ 16777216 ∧ Q (.str (Txt.join a ys)) H) ?_ q⟩
  intro own env n σ H0 H x a Q R ra g
  have wa := R.weak ra
  unfold joinD at g
  split at g
  · rename_i l hl
    split at g
    · rename_i ys hy
      obtain ⟨⟨h1, h2⟩, g⟩ := g.need'
      obtain ⟨p, xs, e1, s1, r1⟩ := wa.row hl
      have e2 := strL_eq hy
      subst e2
      obtain ⟨e3, _⟩ := strL_of r1
      subst e3
      rw [G.K]
      exact ⟨s, p, ys, rfl, by rw [e1], s1, h1, g.done R (Rp.str h2)⟩
    · exact g.stop'.elim
  · exact g.stop'.elim
/-! max with a default -/
def intL : List D → Option (List Int)
  | [] => some []
  | .int s :: l => (intL l).map (s :: ·)
  | _ => none
theorem intL_eq : ∀ {l : List D} {ys : List Int}, intL l = some ys → l = ys.map D.int
  | [], _, h => by cases h; rfl
  | d :: l, ys, h => by
    cases d with
    | int s =>
      simp only [intL] at h
      cases e : intL l with
      | none => rw [e] at h; cases h
      | some zs => rw [e] at h; cases h; rw [List.map_cons, ← intL_eq e]
    | _ => simp [intL] at h
theorem intL_map (ys : List Int) : intL (ys.map D.int) = some ys := by
  induction ys with
  | nil => rfl
  | cons y ys ih => simp [intL, ih]
theorem intL_of {K : PySem.W.Frag} {dk : DkT} {H : Hp} {A : Addr → Prop} : ∀ {ys : List Int} {xs : List V}, RpL K dk H A xs (ys.map D.int) → xs = ys.map V.int
  | [], _, .nil => rfl
  | y :: ys, _, .cons r t => by
    have h1 := intL_of t
    cases r
    rw [h1]
    rfl
def maxDD (a : D) (i : Int) : Mo D := match a with
  | .lst l => match intL l with
    | some [] => ret (.int i)
    | some (y :: ys) => ret (.int (ys.foldl max y))
    | none => stop
  | _ => stop
def rMaxDf (K : PySem.W.Frag) : List V → List V → Hp → VK → Prop := fun xs zs H Q => ∃ (a : Addr) (ns : List Int) (d : Int), xs = [.ref a] ∧ zs = [.int d] ∧ SqL K H a (ns.map V.int) ∧ Q (.int (match ns with | [] => d | y :: ys => ys.foldl max y)) H
theorem alike_ints (ns : List Int) : PySem.W.AlikeAll (ns.map PyData.int) := by
  refine ⟨fun x hx y hy => ?_, fun x hx => ?_⟩
  · obtain ⟨i, _, rfl⟩ := List.mem_map.mp hx
    obtain ⟨j, _, rfl⟩ := List.mem_map.mp hy
    rfl
  · obtain ⟨i, _, rfl⟩ := List.mem_map.mp hx
    exact fun e => PyData.noConfusion e
theorem cr_maxDf (hc : X.A.handled = none) (hu : X.A.units + 150 < cLine) : CallRK X (.builtin "max") [Str.ofString "default"] (rMaxDf X.K) := by
  intro pins s σ H xs zs us ws Q I rx rz h
  obtain ⟨a, ns, d, e1, e2, hs, q⟩ := h
  subst e1 e2
  obtain ⟨u, eu, ru⟩ := vals1 rx
  obtain ⟨z, ez, t, ez2⟩ := vals1 rz
  subst eu ez ez2
  cases ru
  obtain ⟨its, rv, hl, hz⟩ := I.list hs
  obtain ⟨as, hr⟩ := Dp.readsAll I _ _ its (ints_dpL (K := X.K) (H := H) ns) rv
  have dep : PyData.depthAll (ns.map PyData.int) = 0 := by
    clear q hs hr rv rx hz
    induction ns with
    | nil => rfl
    | cons n ns ih => simp [PyData.depthAll, PyData.depth, ih]
  refine PySem.W.max_list_default (vs := its.toArray) hc hl.isList (by simpa using hr) (alike_ints ns) (by rw [dep]; omega) (fun e h' tk hk => ?_) (fun y ys i v h' tk bs e hv rd hk => ?_)
  · cases ns with
    | nil => exact ⟨.int d, H, I.kept hk, ⟨t, rfl⟩, q⟩
    | cons _ _ => cases e
  · cases ns with
    | nil => cases e
    | cons n ns =>
      cases e
      rw [PySem.W.maxD_ints] at rd
      cases rd with
      | int i t => exact ⟨.int _, H, I.kept hk, ⟨t, rfl⟩, q⟩
theorem e_maxd (G : Gd P w base k N sc X c) {e : Expr} {te : DE} {me : Md} {i : Int} {p pos kpos cpos : Pos} {j : Nat} (hg : glB sc "max" = true) (hm : c.mg "max" = none) (he : PE X e (tX c me te)) (hs : backTo pos (starEach [e] X.env) = (false, eval e X.env) :: backTo pos (starEach [] X.env)) (hpl : (backTo pos (starEach [e] X.env)).any (·.1) = false)
    (hs2 : starEach [e] X.env = (false, eval e X.env) :: starEach [] X.env) :
    PE X (.Call (.Name "max" p) [e] [⟨some "default", .Constant (.int i) j cpos, kpos⟩] pos) (tX c .s (un1 te fun a => maxDD a i)) := by
  obtain ⟨g1, g2, g3⟩ := glB_of hg
  refine PE.imp (pe_callBK (cr_maxDf G.room.hd G.hu) (G.gl g1) (by rw [G.mg]; exact hm) (by decide +kernel) (pa_cons he pa_nil hs2) (pk_cons pe_int pk_nil) g3 g2 hs hpl rfl rfl rfl) fun σ H Q q => ?_
  refine op1_tX (r := fun y H Q => rMaxDf X.K [y] [.int i] H Q) ?_ q
  intro own env n σ H0 H x a Q R ra g
  have wa := R.weak ra
  have g : Go c own env H n .s (maxDD a i) Q := g
  unfold maxDD at g
  split at g
  · rename_i l
    obtain ⟨p, xs, e1, n1, s1, r1⟩ := wa
    split at g
    · rename_i hy
      have e2 := intL_eq hy
      subst e2
      cases r1
      rw [G.K]
      exact ⟨p, [], i, by rw [e1], rfl, SqL.of s1, g.done R (Rp.int _)⟩
    · rename_i y ys hy
      have e2 := intL_eq hy
      subst e2
      have e3 := intL_of r1
      subst e3
      rw [G.K]
      exact ⟨p, y :: ys, i, by rw [e1], rfl, SqL.of s1, g.done R (Rp.int _)⟩
    · exact g.stop'.elim
  · exact g.stop'.elim
end
end DL

/-! sets of texts: made of a list, gone through in whatever order -/
namespace DL.St
open PySem PySem.Spec L2
/-- the text of an entry -/
def tx (e : Int × Value) : Str := match e.2 with
  | .str x _ => x
  | _ => ⟨#[]⟩
def Good (w : World) (e : Int × Value) : Prop := ∃ x t, e = (hashStr w x, Value.str x t)
/-- the set of the texts L, in the order of its rows -/
structure SR (w : World) (h : Heap) (a : Addr) (L : List Str) : Prop where
  ex : ∃ o es ep t, h.get? a = some o ∧ o.ExactSet ∧ o.data = .set es ep t ∧ (∀ e ∈ es.toList, Good w e) ∧ es.toList.map tx = L ∧ t.fits es.size = true ∧ Ris t.place.toList ∧ (w.params.followText "set-order" = true ∨ t.led = true)
  nd : L.Nodup
  few : L.length < scanBound
section
variable {P : Program} {w : World} {A : Around} {E : Value → Shared → Prop} {s : Shared} {a : Addr} {L : List Str} {h h' : Heap}
theorem good_els {l : List (Int × Value)} (g : ∀ e ∈ l, Good w e) : ElemsOf (strKind P w) l := fun e he => by
  obtain ⟨x, t, rfl⟩ := g e he
  exact ⟨⟨x, by show Value.isStrOf x (.str x t) = true; simp [Value.isStrOf], rfl⟩, rfl⟩
theorem is_tx {e : Int × Value} (g : Good w e) (x : Str) : (strKind P w).is x e.2 = true ↔ tx e = x := by
  obtain ⟨y, t, rfl⟩ := g
  show Value.isStrOf x (.str y t) = true ↔ y = x
  simp [Value.isStrOf]
theorem SR.size {o : Obj} {es : Array (Int × Value)} {L : List Str} (e : es.toList.map tx = L) : es.size = L.length := by
  rw [← e, List.length_map, Array.length_toList]
/-- behind the new entry: the table is laid again, or it is not -/
theorem add_end {g : Bool → Sem Unit} (hg : ∀ (b : Bool) (z : Shared) (Q : Unit → Shared → Prop), Q () z → wpAny (model P w) A (g b) Q E z) {o : Obj} {es es1 : Array (Int × Value)} {ep : Nat} {t t1 : SetTable} {wd : Bool} {M : List Str} {R : Option Bool → Shared → Prop}
    (ho : s.heap.get? a = some o) (hx : o.ExactSet) (hd : o.data = .set es ep t) (gd : ∀ e ∈ es1.toList, Good w e) (pm : (es1.toList.map tx).Perm M) (ndM : M.Nodup) (fewM : M.length < scanBound) (fit : t1.fits es1.size = true) (ri : Ris t1.place.toList) (le : w.params.followText "set-order" = true ∨ t1.led = true)
    (fin : ∀ (k : Heap) (M' : List Str), Heap.SameBut a s.heap k → M'.Perm M → SR w k a M' → R (some true) { s with heap := k }) :
    wpAny (model P w) A (do
      storeSet a es1 t1
      if (!wd && t1.tooFull) = true then do
        g (relayAll t1 es1 (SetTable.grown es1.size)).2.2
        storeSet a (relayAll t1 es1 (SetTable.grown es1.size)).1 (relayAll t1 es1 (SetTable.grown es1.size)).2.1
        pure (some true)
      else pure (some true)) R E s := by
  have sz1 : es1.size = M.length := by rw [← pm.length_eq, List.length_map, Array.length_toList]
  have b1 : es1.size < scanBound := by rw [sz1]; exact fewM
  have put1 := L2.store_at (es' := es1) (t' := t1) ho hd
  have but1 := Heap.SameBut.update s.heap a (Obj.putSet es1 t1)
  refine wpAny_bind (wpAny_storeSet_of ho hd ?_ (fits_of_scanBound b1))
  by_cases full : (!wd && t1.tooFull) = true
  · rw [if_pos full]
    have q1 := relayAll_perm t1 es1 (SetTable.grown es1.size)
    have q2 := relayAll_fits t1 es1 (SetTable.grown es1.size)
    have q3 := relayAll_ris t1 es1 (SetTable.grown es1.size)
    have q4 := relayAll_led t1 es1 (SetTable.grown es1.size)
    generalize relayAll t1 es1 (SetTable.grown es1.size) = Y at q1 q2 q3 q4 ⊢
    obtain ⟨es2, t2, gv⟩ := Y
    dsimp only at q1 q2 q3 q4 ⊢
    have b2 : es2.size < scanBound := by rw [← Array.length_toList, q1.length_eq, Array.length_toList]; exact b1
    refine wpAny_bind (hg _ _ _ (wpAny_bind (wpAny_storeSet_of put1 rfl ?_ (fits_of_scanBound b2))))
    have put2 := L2.store_at (es' := es2) (t' := t2) put1 rfl
    have pm2 := (q1.map tx).trans pm
    exact wpAny_pure (fin _ _ (but1.trans (Heap.SameBut.update _ a _)) pm2 ⟨⟨_, es2, _, t2, put2, hx, rfl, fun e he => gd e (q1.mem_iff.mp he), rfl, q2, q3, le.imp id fun z => by rw [q4]; exact z⟩, pm2.nodup_iff.mpr ndM, by rw [pm2.length_eq]; exact fewM⟩)
  · rw [if_neg full]
    exact wpAny_pure (fin _ _ but1 pm ⟨⟨_, es1, _, t1, put1, hx, rfl, gd, rfl, fit, ri, le⟩, pm.nodup_iff.mpr ndM, by rw [pm.length_eq]; exact fewM⟩)
/-- a text is added -/
theorem SR.add {x : Str} {t : Tok} {Q : Bool → Shared → Prop} (R : SR w s.heap a L) (room : L.length + 1 < scanBound)
    (hQ : ∀ (k : Heap) (M : List Str) (b : Bool), Heap.SameBut a s.heap k → (x ∈ L → M = L) → (x ∉ L → M.Perm (x :: L)) → SR w k a M → Q b { s with heap := k }) : wpAny (model P w) A (setAddHashed a (.str x t) ((strKind P w).hash x)) Q E s := by
  obtain ⟨⟨o, es, ep, tb, ho, hx, hd, gd, eL, fit, ri, le⟩, nd, few⟩ := R
  have isx : (strKind P w).is x (.str x t) = true := by show Value.isStrOf x (.str x t) = true; simp [Value.isStrOf]
  have sca : (Value.str x t).scannable = true := rfl
  have els := good_els (P := P) gd
  have sz : es.size = L.length := by rw [← eL, List.length_map, Array.length_toList]
  unfold setAddHashed setAddHashedIn
  refine wpAny_holding (wpAny_bind (wpAny_setState_of ho hd fit ?_))
  dsimp only
  rw [byScan_of sca (by rw [sz]; exact few) els]
  simp only [↓reduceIte]
  unfold setAddByScan
  refine wpAny_bind (wpAny_bind (wpAny_rule (wpAny_bind (wpAny_setScan_of isx ho hd fit els ?_))))
  cases hf : List.findIdx? (fun e => (strKind P w).is x e.2) es.toList with
  | some j =>
    dsimp only
    obtain ⟨hj, pj, _⟩ := List.findIdx?_eq_some_iff_getElem.mp hf
    have hm : x ∈ L := by
      rw [← eL, ← (is_tx (P := P) (gd _ (List.getElem_mem hj)) x).mp pj]
      exact List.mem_map_of_mem (List.getElem_mem hj)
    exact wpAny_pure (wpAny_pure (hQ s.heap L _ (Heap.SameBut.refl a s.heap) (fun _ => rfl) (fun z => absurd hm z) ⟨⟨o, es, ep, tb, ho, hx, hd, gd, eL, fit, ri, le⟩, nd, few⟩))
  | none =>
    dsimp only
    have hm : x ∉ L := fun z => by
      rw [← eL] at z
      obtain ⟨e, he, e2⟩ := List.mem_map.mp z
      have c := List.findIdx?_eq_none_iff.mp hf e he
      rw [(is_tx (P := P) (gd e he) x).mpr e2] at c
      exact Bool.noConfusion c
    have way : ∀ (b : Bool) {z : Shared} {Q' : Unit → Shared → Prop}, Q' () z → wpAny (model P w) A (match b with | true => rule "set.scan.the-table-gave-way" | false => pure ()) Q' E z :=
      fun b z Q' q => by cases b <;> first | exact wpAny_pure q | exact wpAny_rule q
    have p1 := layNew_perm tb es ((strKind P w).hash x) (.str x t)
    have p2 := layNew_fits tb es ((strKind P w).hash x) (.str x t)
    have p3 := layNew_ris tb es ((strKind P w).hash x) (.str x t) ri
    have p4 := layNew_led tb es ((strKind P w).hash x) (.str x t)
    generalize layNew tb es ((strKind P w).hash x) (.str x t) = Y at p1 p2 p3 p4 ⊢
    obtain ⟨es1, t1, wd, gv⟩ := Y
    dsimp only at p1 p2 p3 p4 ⊢
    rw [Array.toList_push] at p1
    have p5 : es1.toList.Perm (((strKind P w).hash x, Value.str x t) :: es.toList) := p1.trans (List.perm_append_singleton _ _)
    have p6 : (es1.toList.map tx).Perm (x :: L) := by
      rw [← eL]
      exact p5.map tx
    have gd1 : ∀ e ∈ es1.toList, Good w e := fun e he => by
      rcases List.mem_cons.mp (p5.mem_iff.mp he) with z | z
      · exact ⟨x, t, z⟩
      · exact gd e z
    have nd1 : (x :: L).Nodup := List.nodup_cons.mpr ⟨hm, nd⟩
    have le1 : w.params.followText "set-order" = true ∨ t1.led = true := le.imp id fun z => by rw [p4]; exact z
    have fin : ∀ (b : Bool) (k : Heap) (M : List Str), Heap.SameBut a s.heap k → M.Perm (x :: L) → SR w k a M → Q b { s with heap := k } := fun b k M q1 q2 q3 => hQ k M b q1 (fun z => absurd z hm) (fun _ => q2) q3
    refine wpAny_bind (way _ ?_)
    split
    · refine wpAny_bind ?_
      rw [hashByValue_scannable 8 sca]
      refine wpAny_pure ?_
      refine add_end (M := x :: L) (fun b z Q' q => way b q) ho hx hd gd1 p6 nd1 room ?_ ?_ ?_ fun k M q1 q2 q3 => ?_
      · first | exact p2 | (split <;> first | exact p2 | exact SetTable.fits_plain_off p2)
      · first | exact p3 | (split <;> exact p3)
      · first | exact le1 | (split <;> exact le1)
      · dsimp only
        exact wpAny_pure (fin _ k M q1 q2 q3)
    · refine wpAny_bind (wpAny_pure ?_)
      simp only [↓reduceIte]
      refine add_end (M := x :: L) (fun b z Q' q => way b q) ho hx hd gd1 p6 nd1 room p2 p3 le1 fun k M q1 q2 q3 => ?_
      dsimp only
      exact wpAny_pure (fin _ k M q1 q2 q3)
end
end DL.St

/-! set(xs), xs a list of texts -/
namespace DL.St
open PySem PySem.Spec L2 PyProof.Rows
/-- what the first rows give -/
structure Got (xs : List Str) (L : List Str) : Prop where
  sub : ∀ x ∈ L, x ∈ xs
  all : ∀ x ∈ xs, x ∈ L
section
variable {P : Program} {w : World} {A : Around} {R : Result → Shared → Prop} {I : Addr} {fp wr : List Addr} {G : Array GenState → Array GenState → Prop} {n : Nat} {PV : Nat → Value → Prop} {St : Nat → Shared → Prop}
theorem upd_loop (W : WalksS P w A.in1 I fp wr G n PV St) (a : Addr) (off : a ∉ fp) (xs : List Str) (hn : xs.length = n) (val : ∀ i v, PV i v → ∃ x t, xs[i]? = some x ∧ v = .str x t) (room : n + 1 < scanBound) :
    ∀ (left i : Nat) (L : List Str) (s : Shared), n - i = left → i ≤ n → St i s → SR w s.heap a L → Got (xs.take i) L → L.length ≤ i →
      (∀ (z : Shared) (M : List Str), Moved (a :: wr) G s z → SR w z.heap a M → Got xs M → R (.ok (.ret .none)) z) → codeAny (model P w) A (.builtin "set.update.loop" ⟨[.ref a, .ref I], []⟩) R s := by
  have offw : a ∉ wr := fun h => off (W.sub _ h)
  have sub : ∀ b ∈ wr, b ∈ a :: wr := fun b hb => List.mem_cons_of_mem _ hb
  have stay : ∀ {s z : Shared} {L : List Str}, Moved wr G s z → SR w s.heap a L → SR w z.heap a L := fun mv r => by
    obtain ⟨⟨o, es, ep, t, e1, e2⟩, e3, e4⟩ := r
    exact ⟨⟨o, es, ep, t, mv.heap a _ offw e1, e2⟩, e3, e4⟩
  intro left
  induction left with
  | zero =>
    intro i L s e1 e2 st sr got few fin
    have ei : i = n := by omega
    subst ei
    refine codeAny_builtin F.entry_set_update_loop ?_
    rw [Around.under_plainId F.plain_set_update_loop _]
    refine wpAny_bind (m := pyNext (.ref I)) (W.done s _ _ st fun z mv => ?_)
    show wpAny _ A.in1 (PySem.ret Value.none) _ _ z
    refine wpAny_pure (fin z L (mv.mono sub) (stay mv sr) ?_)
    rw [← hn, List.take_length] at got
    exact got
  | succ left ih =>
    intro i L s e1 e2 st sr got few fin
    have lt : i < n := by omega
    refine codeAny_builtin F.entry_set_update_loop ?_
    rw [Around.under_plainId F.plain_set_update_loop _]
    refine wpAny_bind (m := pyNext (.ref I)) (W.item i s _ _ lt st fun v z pv st1 mv => ?_)
    obtain ⟨x, t, hx, rfl⟩ := val i v pv
    have sr1 := stay mv sr
    show wpAny _ A.in1 (holding [Value.str x t] (setAdd a (.str x t)) >>= _) _ _ z
    refine wpAny_bind (wpAny_holding ?_)
    unfold setAdd
    have isx : (strKind P w).is x (.str x t) = true := by show Value.isStrOf x (.str x t) = true; simp [Value.isStrOf]
    refine wpAny_holding (wpAny_bind ((strKind P w).pyHash isx ?_))
    refine SR.add (s := { z with toks := z.toks + 1 }) sr1 (by omega) fun k M b sb same more sr2 => ?_
    have tk : xs.take (i + 1) = xs.take i ++ [x] := by rw [List.take_add_one, hx]; rfl
    have got2 : Got (xs.take (i + 1)) M := by
      rw [tk]
      by_cases hm : x ∈ L
      · rw [same hm]
        exact ⟨fun y hy => List.mem_append_left _ (got.sub y hy), fun y hy => (List.mem_append.mp hy).elim (got.all y) fun q => by rw [List.mem_singleton.mp q]; exact hm⟩
      · have pm := more hm
        refine ⟨fun y hy => ?_, fun y hy => pm.mem_iff.mpr ?_⟩
        · rcases List.mem_cons.mp (pm.mem_iff.mp hy) with q | q
          · rw [q]; exact List.mem_append_right _ List.mem_cons_self
          · exact List.mem_append_left _ (got.sub y q)
        · rcases List.mem_append.mp hy with q | q
          · exact List.mem_cons_of_mem _ (got.all y q)
          · rw [List.mem_singleton.mp q]; exact List.mem_cons_self
    have few2 : M.length ≤ i + 1 := by
      by_cases hm : x ∈ L
      · rw [same hm]; omega
      · rw [(more hm).length_eq, List.length_cons]; omega
    refine wpAny_pure ⟨plainId_quiet F.plain_set_update_loop _, ih (i + 1) M _ (by omega) lt (W.frame _ z _ _ st1 (Nat.le_succ _) fun b hb o e => ?_) sr2 got2 few2 fun y M2 mv2 sr3 got3 => ?_⟩
    · rw [sb.2 b fun q => off (by rw [← q]; exact hb)]; exact e
    · refine fin y M2 (Moved.trans W.gtrans ((mv.mono sub).then_heap (Nat.le_succ _) fun b o hb e => ?_) mv2) sr3 got3
      rw [sb.2 b fun q => hb (by rw [q]; exact List.mem_cons_self)]; exact e
end
end DL.St

/-! set(xs) as a call -/
namespace DL.St
open PySem PySem.Spec L2 PyProof.Rows
section
variable {P : Program} {w : World} {A : Around} {E : Value → Shared → Prop} {s : Shared}
/-- a new set, empty -/
abbrev freshO (b : Bool) : Obj := { cls := .type "set", dict := none, data := .set #[] 0 (.fresh 0 0 b) }
set_option maxHeartbeats 3200000 in
theorem call_set {l : Addr} {items : Array Value} {Q : Value → Shared → Prop} (J : Heap → Prop) (nohd : A.handled = none) (lst : s.heap.IsList l items)
    (loop : ∀ (A' : Around) (I : Addr) (z : Shared) (R : Result → Shared → Prop) (b : Bool), A'.in1.units ≤ A.units + 3 → s.heap.get? I = none → b = (!w.params.followText "set-order") → z.heap.get? s.heap.objs.size = some (freshO b) → (∀ c o, s.heap.get? c = some o → z.heap.get? c = some o) → s.heap.objs.size ∉ [I, l] →
      WalksS P w A'.in1 I [I, l] [I] (fun a b => b = a) items.size (fun i v => items[i]? = some v) (fun i y => y.heap.IsListIter I l i ∧ y.heap.IsList l items) → (z.heap.IsListIter I l 0 ∧ z.heap.IsList l items) →
      (∀ y, Moved (s.heap.objs.size :: [I]) (fun a b => b = a) z y → J y.heap → R (.ok (.ret .none)) y) → codeAny (model P w) A' (.builtin "set.update.loop" ⟨[.ref s.heap.objs.size, .ref I], []⟩) R z)
    (fin : ∀ (k : Heap) (tk : Nat), J k → (∀ b o, s.heap.get? b = some o → k.get? b = some o) → Q (.ref s.heap.objs.size) { s with heap := k, toks := tk }) : wpAny (model P w) A (call (.type "set") [.ref l]) Q E s := by
  obtain ⟨cc, tl, hmro⟩ := F.called_set.mro
  have f1 := F.called_set.made
  have f2 := F.called_set.sub
  refine wpAny_call (codeAny_of_tree ?_)
  show wpAny _ _ (callAny (.type "set") _) _ _ _
  refine wpAny_pure ⟨Code.quiet_builtin _ (by decide +kernel), codeAny_builtin F.entry_type_call ?_⟩
  rw [Around.under_plain (weight_type_call_type "set" [.ref l] []) rfl]
  have f3 := F.called_set.notType
  have f4 := F.called_set.canCreate
  have f5 := F.typeCall_set_1 (.ref l)
  repeat (any_goals (first | assumption | wp_step))
  refine codeAny_mono (code_set_led1 (.ref l) (E := E) (Q₁ := fun ob z => ∃ b : Bool, b = (!w.params.followText "set-order") ∧ ob = .ref s.heap.objs.size ∧ z = { s with heap := s.heap.push (freshO b) }) ⟨_, rfl, rfl, rfl⟩) fun r z hr => ?_
  cases r with
  | error e => exact hr
  | ok fl =>
    cases fl with
    | ret ob =>
      obtain ⟨led, hled, rfl, rfl⟩ := hr
      have there : (s.heap.push (freshO led)).get? s.heap.objs.size = some (freshO led) := Heap.get?_push_size _ rfl
      have ty : Shared.TypeIs { s with heap := s.heap.push (freshO led) } (.ref s.heap.objs.size) "set" := ⟨_, there, rfl⟩
      have f6 := F.called_set.init.lookup
      have f7 := F.called_set.init.bind (.ref s.heap.objs.size)
      repeat (any_goals (first | assumption | wp_step))
      refine codeAny_mono (codeAny_call_builtin (R := wants (fun r y => r = .none ∧ ∃ k tk, y = { s with heap := k, toks := tk } ∧ J k ∧ (∀ b o, s.heap.get? b = some o → k.get? b = some o)) E) F.called_set.init.plain F.entry_set_init (check_set_init_1 ty ?_)) fun r2 y hr2 => ?_
      · obtain ⟨lo, e1, e2, ep, e3⟩ := lst
        obtain ⟨oc, od, odata, osl⟩ := lo
        simp only at e2 e3
        subst e2 e3
        have e4 : (s.heap.push (freshO led)).get? l = some { cls := .type "list", dict := od, data := .seq items ep, slots := osl } := Heap.get?_push_of_some _ e1
        have g1 := F.sub_list_set
        have g2 := F.sub_list_frozenset
        have g3 : (Value.type "list" == Value.type "dict") = false := by decide
        have lst2 : (s.heap.push (freshO led)).IsList l items := ⟨_, e4, rfl, ep, rfl⟩
        unfold Builtin.«set.__init__» noKeywords Builtin.Frozenset.updateFrom
        generalize hPI : pyIter = PI
        wp_walk
        subst hPI
        refine wpAny_pyIter_list lst2 (wpAny_bind (wpAny_runValue ?_))
        have lS : l < s.heap.objs.size := Heap.lt_size e1
        have hd3 : A.in1.in1.in1.handled = none := by simp [nohd]
        have nI : l ≠ (s.heap.push (freshO led)).objs.size := by
          rw [Heap.size_push]; exact Nat.ne_of_lt (Nat.lt_succ_of_lt lS)
        have offS : s.heap.objs.size ∉ [(s.heap.push (freshO led)).objs.size, l] := by
          rw [Heap.size_push]; simp only [List.mem_cons, List.mem_singleton, List.not_mem_nil, or_false, not_or]
          exact ⟨Nat.ne_of_lt (Nat.lt_succ_self _), Nat.ne_of_gt lS⟩
        have nI0 : s.heap.get? (s.heap.push (freshO led)).objs.size = none := by
          cases q : s.heap.get? (s.heap.push (freshO led)).objs.size with
          | none => rfl
          | some o => exact absurd (Heap.lt_size q) (by rw [Heap.size_push]; exact Nat.not_lt.mpr (Nat.le_succ _))
        refine loop _ _ _ _ led (Nat.le_refl _) nI0 hled (Heap.get?_push_of_some _ there) (fun c o e => Heap.get?_push_of_some _ (Heap.get?_push_of_some _ e)) offS (Walks.list hd3 _ l nI items).toS ⟨⟨_, Heap.get?_push_size _ rfl, rfl, rfl⟩, lst2.push _⟩ fun y mv j => ?_
        obtain ⟨k, g', d', tk', os'⟩ := y
        have q1 : g' = s.gens := mv.gens
        have q2 : d' = s.drawn := mv.drawn
        have q3 : os' = s.os := mv.os
        subst q1 q2 q3
        show wpAny _ _ _ _ _ _
        refine wpAny_pure ?_
        show wpAny _ _ (PySem.ret Value.none) _ _ _
        refine wpAny_pure ⟨rfl, k, tk', rfl, j, fun b o e => ?_⟩
        have lt := Heap.lt_size e
        have n1 : b ≠ s.heap.objs.size := Nat.ne_of_lt lt
        have n2 : b ≠ (s.heap.push (freshO led)).objs.size := by
          rw [Heap.size_push]; exact Nat.ne_of_lt (Nat.lt_succ_of_lt lt)
        exact mv.heap b o (by simp only [List.mem_cons, List.mem_singleton, List.not_mem_nil, or_false, not_or]; exact ⟨n1, n2⟩) (Heap.get?_push_of_some _ (Heap.get?_push_of_some _ e))
      · cases r2 with
        | error e => exact hr2
        | ok fl2 =>
          cases fl2 with
          | ret r =>
            obtain ⟨rfl, k, tk, rfl, j, kp⟩ := hr2
            repeat (any_goals (first | assumption | wp_step))
            exact fin _ _ j kp
          | _ => exact hr2.elim
    | _ => exact hr.elim
end
end DL.St

/-! sorted(a set of texts) -/
namespace DL.St
open PySem PySem.Spec L2 PyProof.Rows PySem.W
section
variable {P : Program} {w : World} {A : Around} {E : Value → Shared → Prop} {s : Shared} {a : Addr} {L : List Str}
def leS (x y : Str) : Bool := decide (x.cps.toList ≤ y.cps.toList)
/-- the values of a set's rows, in some order -/
theorem rows_strs {es : List (Int × Value)} (g : ∀ e ∈ es, Good w e) : ∀ {vs : List Value}, vs.Perm (es.map (·.2)) → ∃ M : List Str, EachIs (fun v (x : Str) => ∃ t, v = Value.str x t) vs M ∧ M.Perm (es.map tx) := by
  have each : ∀ vs : List Value, (∀ v ∈ vs, ∃ x t, v = Value.str x t) → EachIs (fun v (x : Str) => ∃ t, v = Value.str x t) vs (vs.map fun v => match v with | .str x _ => x | _ => ⟨#[]⟩) := by
    intro vs
    induction vs with
    | nil => intro _; exact .nil
    | cons v vs ih =>
      intro h
      obtain ⟨x, t, rfl⟩ := h v List.mem_cons_self
      exact .cons ⟨t, rfl⟩ (ih fun u hu => h u (List.mem_cons_of_mem _ hu))
  intro vs pm
  refine ⟨_, each vs fun v hv => ?_, ?_⟩
  · obtain ⟨e, he, q⟩ := List.mem_map.mp (pm.mem_iff.mp hv)
    obtain ⟨x, t, rfl⟩ := g e he
    exact ⟨x, t, q.symm⟩
  · have := pm.map fun v => match v with | .str x _ => x | _ => (⟨#[]⟩ : Str)
    rw [List.map_map] at this
    exact this
theorem sorted_set {Q : Value → Shared → Prop} (R : SR w s.heap a L) (nohd : A.handled = none) (hu : A.units + 100 < cLine)
    (fin : ∀ (z : Shared) (p : Addr) (out : List Value) (c : Nat) (M : List Str), (∀ b o, s.heap.get? b = some o → z.heap.get? b = some o) → z.gens = s.gens → z.os = s.os → s.heap.objs.size ≤ p → z.heap.get? p = some (seqObj "list" out.toArray c) → M.Perm L →
      EachIs (fun v (x : Str) => ∃ t, v = Value.str x t) out (M.mergeSort leS) → Q (.ref p) z) : wpAny (model P w) A (call (.builtin "sorted") [.ref a]) Q E s := by
  obtain ⟨⟨o, es, ep, t, ho, hx, hd, gd, eL, fit, ri, le⟩, nd, few⟩ := R
  have sz : es.size = L.length := by rw [← eL, List.length_map, Array.length_toList]
  refine Calls.call_function_entry kind_sorted plain_sorted entry_sorted (args_sorted1 _) ?_
  unfold Builtin.«sorted»
  refine wpAny_bind (m := checkCount "sorted" 1 1 _) (wpAny_pure ?_)
  refine wpAny_bind (collect_set (A := A.in1) nohd ⟨o, ho, hx.1, hd⟩ fit (by rw [sz]; exact few) ri le fun z vs kp grow g1 o1 pm => ?_)
  obtain ⟨M, ev, pM⟩ := rows_strs gd pm
  rw [eL] at pM
  have len : M.length < 4096 := by rw [pM.length_eq]; exact few
  have vlen : vs.length = M.length := ev.length
  refine wpAny_bind (wpAny_newList ?_ (by rw [sizeLine_eq]; omega))
  have at0 : (z.heap.push (seqObj "list" vs.toArray 0)).get? z.heap.objs.size = some (seqObj "list" vs.toArray 0) := Heap.get?_push_size _ rfl
  have er : EachIs (fun v (x : Str) => ∃ as, Reads (z.heap.push (seqObj "list" vs.toArray 0)) v (PyData.str x) as ∧ z.heap.objs.size ∉ as) vs M := ev.mono fun v x ⟨t, q⟩ => ⟨[], by rw [q]; exact .str x t, by simp⟩
  refine wpAny_bind (wpAny_holding (list_sort_data (A := A.in1) (s := { z with heap := z.heap.push (seqObj "list" vs.toArray 0) }) (enc := PyData.str) at0 ev er ?_ (.inr ?_) (by rw [sizeLine_eq]; omega) (fun x _ => by show A.units + 1 + 1 + 0 < cLine; omega) fun out l1 l2 => ?_))
  · intro d h1 d' h2
    obtain ⟨x, _, rfl⟩ := List.mem_map.mp h1
    obtain ⟨y, _, rfl⟩ := List.mem_map.mp h2
    rfl
  · intro d h1
    obtain ⟨x, _, rfl⟩ := List.mem_map.mp h1
    exact ⟨fun q => PyData.noConfusion q, fun xs q => PyData.noConfusion q⟩
  · obtain ⟨c, hc⟩ := sortedHeap_at (vs := vs) (out := out.toArray) at0
    have e1 : (dataLe false PyData.str : Str → Str → Bool) = leS := dataLe_str (β := Str) fun x => x
    rw [e1] at l2
    refine wpAny_pure ⟨_, rfl, fin _ z.heap.objs.size out c M (fun b u e => ?_) g1 o1 grow hc pM l2⟩
    have q := kp b u e
    have lt := Heap.lt_size q
    show (sortedHeap (z.heap.push (seqObj "list" vs.toArray 0)) z.heap.objs.size vs out.toArray).get? b = some u
    rw [sortedHeap_old (Nat.ne_of_lt lt) (by rw [size_push']; exact Nat.lt_succ_of_lt lt)]
    exact Heap.get?_push_of_some _ q
end
end DL.St

/-! sorted(set(xs)) as an expression -/
namespace DL.St
open PySem PySem.Spec L2 PyProof.Rows PySem.W
def SetO (w : World) (a : Addr) (L : List Str) : HO := .ext fun h => SR w h a L
section
variable {X : Cx}
theorem setO_ok {w : World} {P : Program} {H : Hp} {h : Heap} {a : Addr} {L : List Str} (R : SR w h a L) : ObjOk P w H h a (SetO w a L) := by
  obtain ⟨o, es, ep, t, ho, r⟩ := R.ex
  refine ⟨R, ⟨o, ho⟩, fun h1 h2 p k => ?_⟩
  obtain ⟨o', es', ep', t', ho', r'⟩ := SR.ex p
  exact ⟨⟨o', es', ep', t', k o' ho', r'⟩, SR.nd p, SR.few p⟩
theorem vals_str {xs : List Str} {us : List Value} (r : Vals (xs.map V.str) us) : us.length = xs.length ∧ ∀ (i : Nat) (v : Value), us[i]? = some v → ∃ x t, xs[i]? = some x ∧ v = Value.str x t := by
  refine ⟨by rw [← r.length, List.length_map], fun i v h => ?_⟩
  have hl : i < (xs.map V.str).length := by rw [r.length]; exact (List.getElem?_eq_some_iff.mp h).1
  rw [List.length_map] at hl
  obtain ⟨u, hu, ru⟩ := r.get (i := i) (x := .str xs[i]) (by rw [List.getElem?_map, List.getElem?_eq_getElem hl]; rfl)
  rw [h] at hu
  cases hu
  obtain ⟨t, e⟩ := ru
  exact ⟨xs[i], t, List.getElem?_eq_getElem hl, e⟩
theorem each_vals : ∀ {us : List Value} {xs : List Str}, EachIs (fun v (x : Str) => ∃ t, v = Value.str x t) us xs → Vals (xs.map V.str) us
  | _, _, .nil => .nil
  | _, _, .cons ⟨t, e⟩ r => .cons ⟨t, e⟩ (each_vals r)
def rSet (K : PySem.W.Frag) (w : World) : List V → Hp → VK → Prop := fun vs H Q => ∃ (l : Addr) (xs : List Str), vs = [.ref l] ∧ SqL K H l (xs.map V.str) ∧ xs.length + 1 < 4096 ∧ ∀ (p : Addr) (L : List Str), H p = none → Got xs L → L.Nodup → Q (.ref p) (upd H p (SetO w p L))
theorem cr_set (hc : X.A.handled = none) : CallR X (.type "set") (rSet X.K X.w) := by
  intro pins s σ H vs us Q I r h
  obtain ⟨l, xs, rfl, hs, few, q⟩ := h
  rw [Vals.ref1 r]
  obtain ⟨its, rv, pl, hz⟩ := I.list hs
  obtain ⟨len, items⟩ := vals_str rv
  have nw : H s.heap.objs.size = none := I.hok.fresh (Nat.le_refl _)
  refine call_set (fun k => ∃ L, SR X.w k s.heap.objs.size L ∧ Got xs L) hc pl.isList (fun A' I' z R b _ _ hb e1 kp off W st fin => ?_) fun k tk j kp => ?_
  · refine upd_loop (St := fun i y => y.heap.IsListIter I' l i ∧ y.heap.IsList l its.toArray) W s.heap.objs.size off xs (by simp [len]) (fun i v hv => items i v (by simpa using hv)) (by show its.toArray.size + 1 < 4096; simp [len]; omega) (its.toArray.size - 0) 0 [] z rfl (Nat.zero_le _) st
      ⟨⟨_, #[], 0, _, e1, ⟨rfl, rfl, rfl⟩, rfl, fun e he => by simp at he, rfl, by rfl, ?_, ?_⟩, List.nodup_nil, by decide⟩ ⟨fun x h => (by cases h), fun x h => (by rw [List.take_zero] at h; cases h)⟩ (Nat.le_refl _) fun y M mv sr got => fin y mv ⟨M, sr, got⟩
    · exact List.Pairwise.nil
    · subst hb
      show _ ∨ (!X.w.params.followText "set-order") = true
      cases X.w.params.followText "set-order"
      · exact .inr rfl
      · exact .inl rfl
  · obtain ⟨L, sr, got⟩ := j
    exact ⟨.ref s.heap.objs.size, _, I.laid (t' := tk) kp (Nat.le_refl _) (setO_ok sr), rfl, q _ L nw got sr.nd⟩
def rSort (w : World) : List V → Hp → VK → Prop := fun vs H Q => ∃ (a : Addr) (L : List Str), vs = [.ref a] ∧ H a = some (SetO w a L) ∧ ∀ (M : List Str) (p : Addr), M.Perm L → H p = none → Q (.ref p) (upd H p (.lst ((M.mergeSort leS).map V.str)))
theorem cr_sort (hc : X.A.handled = none) (hu : X.A.units + 100 < cLine) : CallR X (.builtin "sorted") (rSort X.w) := by
  intro pins s σ H vs us Q I r h
  obtain ⟨a, L, rfl, ha, q⟩ := h
  rw [Vals.ref1 r]
  have R : SR X.w s.heap a L := (I.hok a _ ha).1
  refine sorted_set R hc hu fun z p out c M kp g o lo hp pm ev => ?_
  have nw : H p = none := I.hok.fresh lo
  have few : M.length < 4096 := by rw [pm.length_eq]; exact R.few
  have hv : Vals ((M.mergeSort leS).map V.str) out := each_vals ev
  have hlen : ((M.mergeSort leS).map V.str).length ≤ sizeLine := by rw [List.length_map, List.length_mergeSort, sizeLine_eq]; omega
  have J : Inv X pins σ (upd H p (.lst ((M.mergeSort leS).map V.str))) { s with heap := z.heap, gens := z.gens, drawn := z.drawn, toks := z.toks } :=
    I.call (ch := []) (Un.laid kp lo nw) (I.hok.laid kp lo ⟨hlen, out, c, hv, hp⟩) (by rw [g]; exact I.bare) (fun _ z => nomatch z)
  have e : z = { s with heap := z.heap, gens := z.gens, drawn := z.drawn, toks := z.toks } := by
    cases z; cases s; cases o; rfl
  rw [e]
  exact ⟨.ref p, _, J, rfl, q M p pm nw⟩
end
end DL.St

namespace DL.St
open PySem PySem.Spec L2
/-- each once -/
def dedupS : List Str → List Str
  | [] => []
  | x :: xs => if x ∈ xs then dedupS xs else x :: dedupS xs
theorem mem_dedup {x : Str} : ∀ {xs : List Str}, x ∈ dedupS xs ↔ x ∈ xs
  | [] => Iff.rfl
  | y :: ys => by
    unfold dedupS
    split
    · rename_i h
      rw [mem_dedup, List.mem_cons]
      exact ⟨.inr, fun z => z.elim (fun e => by rw [e]; exact h) id⟩
    · rw [List.mem_cons, List.mem_cons, mem_dedup]
theorem nodup_dedup : ∀ xs : List Str, (dedupS xs).Nodup
  | [] => List.nodup_nil
  | y :: ys => by
    unfold dedupS
    split
    · exact nodup_dedup ys
    · rename_i h
      exact List.nodup_cons.mpr ⟨fun z => h (mem_dedup.mp z), nodup_dedup ys⟩
/-- ascending, each once -/
def srtS (xs : List Str) : List Str := (dedupS xs).mergeSort leS
theorem leS_trans (a b c : Str) (h1 : leS a b = true) (h2 : leS b c = true) : leS a c = true := decide_eq_true (List.le_trans (of_decide_eq_true h1) (of_decide_eq_true h2))
theorem leS_total (a b : Str) : (leS a b || leS b a) = true := by
  rcases List.le_total a.cps.toList b.cps.toList with h | h
  · simp [leS, h]
  · simp [leS, h]
theorem leS_anti {a b : Str} (h1 : leS a b = true) (h2 : leS b a = true) : a = b := PySem.W.str_of_cps (List.le_antisymm (of_decide_eq_true h1) (of_decide_eq_true h2))
theorem srtS_one {xs L M : List Str} (g : Got xs L) (nd : L.Nodup) (pm : M.Perm L) : M.mergeSort leS = srtS xs := by
  have p1 : M.Perm (dedupS xs) := pm.trans ((List.perm_ext_iff_of_nodup nd (nodup_dedup xs)).mpr fun x => ⟨fun h => mem_dedup.mpr (g.sub x h), fun h => g.all x (mem_dedup.mp h)⟩)
  have p2 : (M.mergeSort leS).Perm (srtS xs) := (List.mergeSort_perm M leS).trans (p1.trans (List.mergeSort_perm _ leS).symm)
  refine List.Perm.eq_of_pairwise (le := fun a b => leS a b = true) (fun a b _ _ h1 h2 => leS_anti h1 h2) ?_ ?_ p2
  · exact List.pairwise_mergeSort leS_trans leS_total M
  · exact List.pairwise_mergeSort leS_trans leS_total _
end DL.St

/-! sets of rows of texts (tuples whose items are texts): adding -/
namespace DL.Rs
open PySem PySem.Spec L2 PyProof.Rows
abbrev Row := List Str
section
variable {P : Program} {w : World} {A : Around} {E : Value → Shared → Prop} {s : Shared} {h h' : Heap}
/-- the row's hash; the row stands at b -/
abbrev hsh (P : Program) (w : World) (r : Row) : Int := tupleKeyHash (strKind P w) r
abbrev RowAt (P : Program) (w : World) (h : Heap) (r : Row) (b : Addr) : Prop := IsTupleKey (strKind P w) h r b
theorem row_items {r : Row} {vs : List Value} (i : ItemsAre (strKind P w) r vs) : ∀ v ∈ vs, ∃ x t, v = Value.str x t := by
  induction i with
  | nil => exact fun v hv => (by cases hv)
  | @cons x u r us e _ ih =>
    intro v hv
    rcases List.mem_cons.mp hv with q | q
    · obtain ⟨t, e2⟩ := Value.isStrOf_shape e
      exact ⟨x, t, q.trans e2⟩
    · exact ih v q
theorem row_keep {r : Row} {b : Addr} (i : RowAt P w h r b) (kp : ∀ c o, h.get? c = some o → h'.get? c = some o) : RowAt P w h' r b := by
  obtain ⟨o, items, n, ho, q⟩ := i
  exact ⟨o, items, n, kp b o ho, q⟩
theorem row_same {r : Row} {a b : Addr} {o : Obj} {es : Array (Int × Value)} {ep : Nat} {t : SetTable} (i : RowAt P w h r b) (ho : h.get? a = some o) (hd : o.data = .set es ep t) (sb : Heap.SameBut a h h') : RowAt P w h' r b := by
  obtain ⟨u, items, n, hu, hc, du, q⟩ := i
  refine ⟨u, items, n, (sb.2 b fun z => ?_).trans hu, hc, du, q⟩
  rw [z, ho] at hu
  cases hu
  rw [hd] at du
  cases du
/-- a walk over texts that asks each for nothing -/
theorem each_str {items : Array Value} {δ : Type} {f : Value → Option δ × PUnit → Sem (ForInStep (Option δ × PUnit))} {Q : Option δ × PUnit → Shared → Prop} (all : ∀ v ∈ items.toList, ∃ x t, v = Value.str x t)
    (turn : ∀ x t, f (.str x t) (none, ⟨⟩) = pure (.yield (none, ⟨⟩))) (fin : Q (none, ⟨⟩) s) : wpAny (model P w) A (forIn items (none, ⟨⟩) f) Q E s := by
  rw [← Array.forIn_toList]
  refine wpAny_forIn_list _ (fun rest r z => r = (none, ⟨⟩) ∧ z = s ∧ ∀ v ∈ rest, ∃ x t, v = Value.str x t) _ ?_ ?_ _ _ ⟨rfl, rfl, all⟩
  · rintro v rest r z ⟨rfl, rfl, q⟩
    obtain ⟨x, t, rfl⟩ := q v List.mem_cons_self
    rw [turn]
    exact wpAny_pure ⟨rfl, rfl, fun u hu => q u (List.mem_cons_of_mem _ hu)⟩
  · rintro r z ⟨rfl, rfl, _⟩
    exact fin
theorem cls_str (n : Nat) (x : Str) (t : Tok) : ofAClassStatement n (.str x t) = pure false := by cases n <;> rfl
theorem val_str (n : Nat) (x : Str) (t : Tok) : hashByValue n (.str x t) = pure false := hashByValue_scannable n rfl
theorem row_cls {r : Row} {b : Addr} {Q : Bool → Shared → Prop} (i : RowAt P w s.heap r b) (q : Q false s) : wpAny (model P w) A (ofAClassStatement 8 (.ref b)) Q E s := by
  have ty := i.typeIs
  obtain ⟨o, items, n, ho, _, hd, hi⟩ := i
  unfold ofAClassStatement
  refine wpAny_bind (wpAny_typeOf ty ?_)
  dsimp only
  simp only [show (("tuple" : String) == "tuple") = true from by decide, if_true, Bool.not_true, Bool.false_eq_true, if_false]
  try refine wpAny_bind (wpAny_pure ?_)
  try simp only [Bool.not_true, Bool.false_eq_true, if_false]
  refine wpAny_bind (m := seqItems? (.ref b)) (wpAny_seqItems ho hd ?_)
  dsimp only
  refine wpAny_bind (each_str (row_items hi) (fun x t => ?_) ?_)
  · rw [cls_str]; rfl
  · exact wpAny_pure q
theorem row_val {r : Row} {b : Addr} {Q : Bool → Shared → Prop} (i : RowAt P w s.heap r b) (q : ∀ c, Q c s) : wpAny (model P w) A (hashByValue 8 (.ref b)) Q E s := by
  have ty := i.typeIs
  obtain ⟨o, items, n, ho, _, hd, hi⟩ := i
  unfold hashByValue
  refine wpAny_bind (wpAny_specialOf ty F.slot_tuple_hash.lookup ?_)
  refine wpAny_bind (m := seqItems? (.ref b)) (wpAny_seqItems ho hd ?_)
  refine wpAny_bind ?_
  show wpAny _ _ (forIn items _ _) _ _ s
  rw [← Array.forIn_toList]
  refine wpAny_forIn_list _ (fun rest u z => z = s ∧ ∀ v ∈ rest, ∃ x t, v = Value.str x t) _ ?_ ?_ _ _ ⟨rfl, row_items hi⟩
  · rintro v rest u z ⟨rfl, all⟩
    obtain ⟨x, t, rfl⟩ := all v List.mem_cons_self
    rw [val_str]
    refine wpAny_bind (wpAny_pure ?_)
    exact wpAny_pure (wpAny_pure (q _))
  · rintro ⟨u1, u2⟩ z ⟨rfl, _⟩
    cases u1 with
    | none => exact wpAny_pure (q _)
    | some c => exact wpAny_pure (q _)
/-- nobody sees the search -/
theorem row_unseen {r : Row} {b : Addr} {Q : Bool → Shared → Prop} (i : RowAt P w s.heap r b) {ys : List Value} (hy : ∀ y ∈ ys, ∃ k c, y = Value.ref c ∧ RowAt P w s.heap k c) (q : Q false s) : wpAny (model P w) A (searchCouldBeSeen (.ref b) ys) Q E s := by
  unfold searchCouldBeSeen
  refine wpAny_bind ?_
  refine wpAny_forIn_list _ (fun rest u z => u.1 = none ∧ z = s ∧ ∀ y ∈ rest, ∃ k c, y = Value.ref c ∧ RowAt P w s.heap k c) _ ?_ ?_ _ _ ⟨rfl, rfl, hy⟩
  · rintro v rest u z ⟨hu, rfl, all⟩
    obtain ⟨k, c, rfl, hc⟩ := all v List.mem_cons_self
    have more : ∀ y ∈ rest, ∃ k c, y = Value.ref c ∧ RowAt P w z.heap k c := fun y hy => all y (List.mem_cons_of_mem _ hy)
    dsimp only
    by_cases same : (b == c || (carriedByValue (.ref b) && carriedByValue (.ref c))) = true
    · exact wp_if_pos same (wpAny_pure ⟨rfl, rfl, more⟩)
    · refine wp_if_neg same (wpAny_bind (wpAny_eqIsQuiet_tuple i ?_))
      simp only [Bool.not_true, Bool.false_eq_true, if_false]
      refine wpAny_bind (wpAny_eqIsQuiet_tuple hc ?_)
      simp only [Bool.not_true, Bool.false_eq_true, if_false]
      refine wpAny_bind (row_cls i ?_)
      simp only [Bool.false_eq_true, if_false]
      refine wpAny_bind (row_cls hc ?_)
      simp only [Bool.false_eq_true, if_false]
      exact wpAny_pure ⟨rfl, rfl, more⟩
  · rintro ⟨u1, u2⟩ z ⟨hu, rfl, _⟩
    simp only at hu
    subst hu
    exact wpAny_pure q
/-! the set's rows -/
abbrev Ad := Addr × Row
def ents (P : Program) (w : World) (L : List Ad) : List (Int × Value) := L.map fun p => (hsh P w p.2, Value.ref p.1)
def hss (P : Program) (w : World) (L : List Ad) : List Int := L.map fun p => hsh P w p.2
/-- most members (the table of 128 slots is not left) -/
def cap : Nat := 76
structure SetAt (P : Program) (w : World) (h : Heap) (a : Addr) (L : List Ad) (es : Array (Int × Value)) (ep : Nat) (t : SetTable) : Prop where
  at_ : ∃ o, h.get? a = some o ∧ o.ExactSet ∧ o.data = .set es ep t
  ent : es.toList = ents P w L
  tab : TabOk t (hss P w L)
  nd : (L.map (·.2)).Nodup
  row : ∀ p ∈ L, RowAt P w h p.2 p.1
  led : w.params.followText "set-order" = true ∨ t.led = true
  room : L.length * 5 < t.mask * 3
  few : L.length ≤ cap
variable {a : Addr} {L : List Ad} {es : Array (Int × Value)} {ep : Nat} {t : SetTable}
theorem ents_len {l : List (Int × Value)} (e : l = ents P w L) : l.length = L.length := by rw [e]; unfold ents; rw [List.length_map]
theorem SetAt.len (R : SetAt P w h a L es ep t) : es.size = L.length := by rw [← Array.length_toList]; exact ents_len R.ent
theorem SetAt.plc (R : SetAt P w h a L es ep t) : t.place.size = L.length := by
  have := R.tab.sz
  unfold hss at this
  rwa [List.length_map] at this
theorem fits_of {n : Nat} (h1 : t.place.size = n) (h2 : t.dummies = #[]) (h3 : n ≤ t.mask) : t.fits n = true := by
  unfold SetTable.fits SetTable.fill
  rw [h2, Bool.and_eq_true, beq_iff_eq, decide_eq_true_eq]
  exact ⟨h1, by show t.place.size + 0 ≤ _; omega⟩
theorem SetAt.fit (R : SetAt P w h a L es ep t) : t.fits es.size = true := fits_of (by rw [R.plc, R.len]) R.tab.dm (by have := R.room; rw [R.len]; omega)
theorem SetAt.nth (R : SetAt P w h a L es ep t) {i : Nat} {p : Ad} (q : L[i]? = some p) : es[i]? = some (hsh P w p.2, Value.ref p.1) := by
  rw [← Array.getElem?_toList, R.ent]
  unfold ents
  rw [List.getElem?_map, q]; rfl
theorem SetAt.hat (R : SetAt P w h a L es ep t) {i : Nat} {p : Ad} (q : L[i]? = some p) : (es[i]?.map (·.1)).getD 0 = hsh P w p.2 := by rw [R.nth q]; rfl
theorem SetAt.firm (R : SetAt P w h a L es ep t) : ¬ t.gaveWay = true := by
  unfold SetTable.gaveWay
  rw [mask_odd R.tab.mok]; decide
/-- where the row's way begins -/
abbrev begin_ (t : SetTable) (g : Int) : SetTable.Probe := runAt t.mask (SetTable.bits g % (t.mask + 1)) (SetTable.bits g)
theorem no_dummy (m : Nat) : ∀ (n : Nat) (p : SetTable.Probe), p.dummy = none → (nth m p n).dummy = none
  | 0, _, e => e
  | n + 1, p, e => no_dummy m n (adv m p) (by unfold adv; split <;> exact e)
end
end DL.Rs

/-! sets of rows of texts: the search, a row more -/
namespace DL.Rs
open PySem PySem.Spec L2 PyProof.Rows
section
variable {P : Program} {w : World} {A : Around} {E : Value → Shared → Prop} {s : Shared} {a : Addr} {L : List Ad} {es : Array (Int × Value)} {ep : Nat} {t : SetTable}
/-- from step c of the way; K: its first empty slot -/
theorem seek (R : SetAt P w s.heap a L es ep t) {x : Addr} {r : Row} (hx : RowAt P w s.heap r x) (hu : A.units < cLine) {g : Int} (hg : g = hsh P w r) {K : Nat} (hK : K < 10 * SetTable.turns t.mask) (free : way t.mask g K ∉ t.place.toList)
    (full : ∀ c, c < K → way t.mask g c ∈ t.place.toList) {Q : SetFound → Shared → Prop} (yes : r ∈ L.map (·.2) → Q (.there none) s) (no : r ∉ L.map (·.2) → Q (.free (way t.mask g K) false) s) :
    ∀ (f c : Nat) (st : Option SetTable.Probe), st.getD (t.probeStart g) = nth t.mask (begin_ t g) c → c ≤ K → K - c < f → (∀ (i : Nat) (p : Ad), L[i]? = some p → p.2 = r → ∃ d, c ≤ d ∧ d < K ∧ t.place.toList[i]? = some (way t.mask g d)) →
      wpAny (model P w) A (setSearchFrom a (.ref x) g true f st) Q E s := by
  intro f
  induction f with
  | zero => exact fun c st _ _ z _ => absurd z (Nat.not_lt_zero _)
  | succ f ih =>
    intro c st at_ cK fu rest
    obtain ⟨o, ho, hex, hd⟩ := R.at_
    have step : ∀ q, nth t.mask (nth t.mask (begin_ t g) c) q = nth t.mask (begin_ t g) (c + q) := fun q => (nth_add t.mask c _ q).symm
    have wj : ∀ q, (nth t.mask (nth t.mask (begin_ t g) c) q).j = way t.mask g (c + q) := fun q => congrArg SetTable.Probe.j (step q)
    have eK : c + (K - c) = K := by omega
    have look := go_spec t R.tab.ris R.tab.dm (fun i => (es[i]?.map (·.1)).getD 0) g (10 * SetTable.turns t.mask) (K - c) (nth t.mask (begin_ t g) c) (no_dummy t.mask c _ rfl) (by omega)
      (fun q hq => by rw [wj]; exact full _ (by omega)) (by rw [wj, eK]; exact free)
    -- a row that is r stands at a slot that is not passed yet
    have ahead : ∀ {i : Nat} {p : Ad} {d : Nat}, L[i]? = some p → p.2 = r → c ≤ d → t.place.toList[i]? = some (way t.mask g d) → (∀ e, t.place.toList[i]? = some ((nth t.mask (nth t.mask (begin_ t g) c) e).j) → e = d - c → (fun i => (es[i]?.map (·.1)).getD 0) i = g → False) → False := by
      intro i p d hp hr cd hd2 bad
      refine bad (d - c) ?_ rfl ((R.hat hp).trans (by rw [hr, hg]))
      rw [wj, show c + (d - c) = d by omega]; exact hd2
    rw [setSearchFrom_succ]
    refine wpAny_bind (wpAny_setState_of ho hd R.fit ?_)
    dsimp only
    refine wp_if_neg R.firm ?_
    try refine wpAny_bind (wpAny_pure ?_)
    rcases look with ⟨q, i, hq, hi, _, none_before, pr⟩ | ⟨nowhere, pr⟩
    · -- some row with this hash
      have pr2 : t.probe (fun i => (es[i]?.map (·.1)).getD 0) g (st.getD (t.probeStart g)) = some (.candidate (way t.mask g (c + q)) i (nth t.mask (begin_ t g) (c + (q + 1)))) := by
        rw [at_, ← wj, ← step]; exact pr
      rw [wj] at hi
      have il : i < L.length := by
        have := (List.getElem?_eq_some_iff.mp hi).1
        rw [Array.length_toList, R.plc] at this
        exact this
      obtain ⟨p, hp⟩ : ∃ p, L[i]? = some p := ⟨_, List.getElem?_eq_getElem il⟩
      have pin := List.mem_of_getElem? hp
      have live := slot_live R.tab.ris hi
      rw [pr2]
      dsimp only
      have behind : wpAny (model P w) A (searchRest a (.ref x) g true f es t (way t.mask g (c + q)) i (nth t.mask (begin_ t g) (c + (q + 1)))) Q E s := by
        unfold searchRest
        rw [R.nth hp]
        dsimp only
        refine wpAny_bind (wpAny_holding (wpAny_eqBool_tuple hu (R.row p pin) hx ?_))
        refine wpAny_bind (wpAny_setState_of ho hd R.fit ?_)
        dsimp only
        by_cases er : p.2 = r
        · exact wp_if_pos (by simp [er]) (wpAny_pure (yes (List.mem_map.mpr ⟨p, pin, er⟩)))
        · refine wp_if_neg (by simp [er]) ?_
          try refine wpAny_bind (wpAny_pure ?_)
          rw [sameMem]
          dsimp only
          simp only [if_true, live, R.nth hp]
          refine wpAny_bind (wpAny_isSame_ref_self (wpAny_bind (wpAny_pure ?_)))
          simp only [if_true]
          refine wp_if_neg (by simp [er]) (ih (c + (q + 1)) _ rfl (by omega) (by omega) fun i2 p2 hp2 hr2 => ?_)
          obtain ⟨d, d1, d2, d3⟩ := rest i2 p2 hp2 hr2
          refine ⟨d, ?_, d2, d3⟩
          by_cases lt : d < c + q
          · exact (ahead hp2 hr2 d1 d3 fun e he ee hh => none_before e i2 (by omega) he hh).elim
          · by_cases eq : d = c + q
            · subst eq
              have l2 := slot_live R.tab.ris d3
              rw [live] at l2
              injection l2 with l2
              subst l2
              rw [hp] at hp2
              cases hp2
              exact absurd hr2 er
            · omega
      by_cases ld : t.led = true
      · refine wp_if_neg (by simp [ld]) ?_
        try refine wpAny_bind (wpAny_pure ?_)
        exact behind
      · refine wp_if_pos (by simp [ld]) (wpAny_bind (row_unseen hx (fun y hy => ?_) ?_))
        · obtain ⟨e, he, rfl⟩ := List.mem_map.mp hy
          have he : e ∈ es.toList := by
            have : e ∈ es ∧ e.1 = g := by simpa using he
            simpa using this.1
          rw [R.ent] at he
          obtain ⟨p2, k1, rfl⟩ := List.mem_map.mp he
          exact ⟨p2.2, p2.1, rfl, R.row p2 k1⟩
        · refine wp_if_neg (by decide) ?_
          try refine wpAny_bind (wpAny_pure ?_)
          exact behind
    · -- the way ends
      have pr2 : t.probe (fun i => (es[i]?.map (·.1)).getD 0) g (st.getD (t.probeStart g)) = some (.empty (way t.mask g K) none) := by
        rw [at_, show way t.mask g K = (nth t.mask (nth t.mask (begin_ t g) c) (K - c)).j from by rw [wj, eK]]
        exact pr
      rw [pr2]
      dsimp only
      refine wpAny_pure (no fun z => ?_)
      obtain ⟨p, pin, er⟩ := List.mem_map.mp z
      obtain ⟨i, hi, e⟩ := List.getElem_of_mem pin
      have hp : L[i]? = some p := by rw [List.getElem?_eq_getElem hi, e]
      obtain ⟨d, d1, d2, d3⟩ := rest i p hp er
      exact ahead hp er d1 d3 fun e he ee hh => nowhere e i (by omega) he hh
theorem find (R : SetAt P w s.heap a L es ep t) {x : Addr} {r : Row} (hx : RowAt P w s.heap r x) (hu : A.units < cLine) {Q : SetFound → Shared → Prop} (yes : r ∈ L.map (·.2) → Q (.there none) s)
    (no : ∀ K, r ∉ L.map (·.2) → way t.mask (hsh P w r) K ∉ t.place.toList → (∀ c, c < K → way t.mask (hsh P w r) c ∈ t.place.toList) → Q (.free (way t.mask (hsh P w r) K) false) s) : wpAny (model P w) A (setSearch a (.ref x) (hsh P w r) true) Q E s := by
  have room := R.room
  obtain ⟨K, k1, k2, k3⟩ := R.tab.first (by unfold hss; rw [List.length_map]; omega) (hsh P w r)
  have most : K < 100000 := by
    have : SetTable.turns t.mask ≤ 142 := by
      unfold SetTable.turns
      rcases R.tab.mok with e | e | e <;> omega
    omega
  unfold setSearch
  refine seek R hx hu rfl k1 k2 k3 yes (fun q => no K q k2 k3) 100000 0 none rfl (Nat.zero_le _) (by omega) fun i p hp er => ?_
  have hh : (hss P w L)[i]? = some (hsh P w r) := by unfold hss; rw [List.getElem?_map, hp, ← er]; rfl
  have il : i < t.place.toList.length := by
    rw [Array.length_toList, R.plc]
    exact (List.getElem?_eq_some_iff.mp hp).1
  obtain ⟨d, d1, d2⟩ := R.tab.before k2 hh (List.getElem?_eq_getElem il)
  exact ⟨d, Nat.zero_le _, d1, by rw [List.getElem?_eq_getElem il, d2]⟩
/-- entries in another order -/
theorem shuffle {order : Array Nat} (ent : es.toList = ents P w L) (pm : order.toList.Perm (List.range L.length)) :
    ∃ M, (order.filterMap (es[·]?)).toList = ents P w M ∧ M.Perm L ∧ hss P w M = order.toList.map fun i => (es.map (·.1)).getD i 0 := by
  have at_ : ∀ i (h : i < L.length), es[i]? = some (hsh P w (L[i]).2, Value.ref (L[i]).1) := fun i h => by
    rw [← Array.getElem?_toList, ent]
    unfold ents
    rw [List.getElem?_map, List.getElem?_eq_getElem h]; rfl
  have sel : ∀ l : List Nat, (∀ i ∈ l, i < L.length) → l.filterMap (fun i => es[i]?) = ents P w (l.filterMap fun i => L[i]?) ∧ hss P w (l.filterMap fun i => L[i]?) = l.map fun i => (es.map (·.1)).getD i 0 := by
    intro l
    induction l with
    | nil => exact fun _ => ⟨rfl, rfl⟩
    | cons i l ih =>
      intro hl
      have hi := hl i List.mem_cons_self
      obtain ⟨e1, e2⟩ := ih fun j hj => hl j (List.mem_cons_of_mem _ hj)
      rw [List.filterMap_cons_some (at_ i hi), List.filterMap_cons_some (List.getElem?_eq_getElem hi), e1]
      refine ⟨rfl, ?_⟩
      have e3 : (es.map (·.1)).getD i 0 = hsh P w (L[i]).2 := by
        rw [Array.getD_eq_getD_getElem?, Array.getElem?_map, at_ i hi]; rfl
      rw [List.map_cons, e3, ← e2]; rfl
  obtain ⟨e1, e2⟩ := sel order.toList fun i hi => List.mem_range.mp (pm.mem_iff.mp hi)
  refine ⟨_, by rw [Array.toList_filterMap]; exact e1, ?_, e2⟩
  have all : (List.range L.length).filterMap (fun i => L[i]?) = L := by
    apply List.ext_getElem?
    intro j
    have key : ∀ n, n ≤ L.length → (List.range n).filterMap (fun i => L[i]?) = L.take n := by
      intro n
      induction n with
      | zero => exact fun _ => rfl
      | succ n ih => exact fun hn => by rw [List.range_succ, List.filterMap_append, ih (by omega), List.filterMap_cons_some (List.getElem?_eq_getElem hn), List.take_succ, List.getElem?_eq_getElem hn]; rfl
    rw [key _ (Nat.le_refl _), List.take_length]
  have := pm.filterMap fun i => L[i]?
  rw [all] at this
  exact this
/-- laid again in a larger table -/
theorem relay {o : Obj} (ho : s.heap.get? a = some o) (hex : o.ExactSet) (hd : o.data = .set es ep t) (ent : es.toList = ents P w L) (plc : t.place.size = es.size) (dm : t.dummies = #[]) (fl : es.size ≤ t.mask) (nd : (L.map (·.2)).Nodup)
    (row : ∀ p ∈ L, RowAt P w s.heap p.2 p.1) (led : w.params.followText "set-order" = true ∨ t.led = true) (few : L.length ≤ cap) {wanted M : Nat} (hw : SetTable.sizeAbove wanted - 1 = M) (ok : MaskOk M) (hw2 : SetTable.sizeAbove wanted ≤ 128) (room : L.length * 5 < M * 3) {Q : Unit → Shared → Prop}
    (fin : ∀ k N es2 ep2 t2, Heap.SameBut a s.heap k → SetAt P w k a N es2 ep2 t2 → N.Perm L → Q () { s with heap := k }) : wpAny (model P w) A (setRelay a wanted) Q E s := by
  have n1 : es.size = L.length := by rw [← Array.length_toList]; exact ents_len ent
  obtain ⟨t2, order, e, pm, T, m2, l2, _, _⟩ := relaid_ok t (hs := es.map (·.1)) hw ok (by rw [Array.size_map, n1]; omega)
  rw [Array.size_map, n1] at pm
  obtain ⟨N, x1, x2, x3⟩ := shuffle ent pm
  rw [← x3] at T
  have n2 : (order.filterMap (es[·]?)).size = L.length := by rw [← Array.length_toList, ents_len x1, x2.length_eq]
  have lim : cap ≤ 1000 := by decide
  rw [setRelay_eq]
  refine wpAny_bind (wpAny_setState_of ho hd (fits_of plc dm fl) ?_)
  dsimp only
  refine wp_if_neg (by rw [sizeLine_eq]; omega) ?_
  try refine wpAny_bind (wpAny_pure ?_)
  rw [e]
  dsimp only
  refine wpAny_bind (wp_if_neg (by rw [n2, n1]; simp) ?_)
  try refine wpAny_bind (wpAny_pure ?_)
  refine wpAny_pure ?_
  dsimp only
  refine wpAny_storeSet_of ho hd ?_ (by rw [n2, sizeLine_eq]; omega)
  have sb : Heap.SameBut a s.heap (s.heap.update a (Obj.putSet (order.filterMap (es[·]?)) t2)) := Heap.SameBut.update ..
  exact fin _ N _ (ep + 1) t2 sb ⟨⟨_, L2.store_at ho hd, hex, rfl⟩, x1, T, (x2.map (·.2)).nodup_iff.mpr nd, fun p hp => row_same (row p (x2.mem_iff.mp hp)) ho hd sb, by rw [l2]; exact led, by rw [x2.length_eq, m2]; exact room, by rw [x2.length_eq]; exact few⟩ x2
theorem tabOk_plain {hs : List Int} {b : Bool} (T : TabOk t hs) : TabOk { t with plain := b } hs := ⟨T.ris, T.dm, T.sz, T.mok, T.bd, T.reach⟩
/-- a row more -/
theorem add (R : SetAt P w s.heap a L es ep t) {x : Addr} {r : Row} (hx : RowAt P w s.heap r x) (hu : A.units < cLine) (few : r ∉ L.map (·.2) → L.length + 1 ≤ cap) {Q : Bool → Shared → Prop}
    (fin : ∀ b k N es2 ep2 t2, Heap.SameBut a s.heap k → SetAt P w k a N es2 ep2 t2 → (r ∈ L.map (·.2) → N = L) → (r ∉ L.map (·.2) → N.Perm ((x, r) :: L)) → Q b { s with heap := k }) : wpAny (model P w) A (setAddHashed a (.ref x) (hsh P w r)) Q E s := by
  obtain ⟨o, ho, hex, hd⟩ := R.at_
  have room := R.room
  have n1 := R.len
  unfold setAddHashed
  refine wpAny_holding ?_
  rw [show (100000 : Nat) = 99999 + 1 from rfl, setAddHashedIn_succ]
  refine wpAny_bind (wpAny_setState_of ho hd R.fit ?_)
  dsimp only
  refine wp_if_neg (by simp [byScan, Value.scannable]) ?_
  try refine wpAny_bind (wpAny_pure ?_)
  refine wpAny_bind (find R hx hu (fun z => ?_) fun K z k2 k3 => ?_)
  · exact wpAny_pure (fin false s.heap L es ep t (Heap.SameBut.refl a s.heap) R (fun _ => rfl) fun q => absurd z q)
  · have few := few z
    have lim : cap = 76 := rfl
    dsimp only
    refine wpAny_bind (wpAny_setState_of ho hd R.fit ?_)
    dsimp only
    obtain ⟨u1, u2, u3, u4, u5, u6, _, _, u9⟩ := R.tab.put k2 k3
    generalize e : t.put (way t.mask (hsh P w r) K) = pt at u1 u3 u4 u5 u6 u9 ⊢
    obtain ⟨t1, p⟩ := pt
    dsimp only at u1 u3 u4 u5 u6 u9 ⊢
    subst u1
    -- the entries with the new one
    have ins : (SetTable.insertAt es (SetTable.below t.place (way t.mask (hsh P w r) K)) (hsh P w r, Value.ref x)).toList = ents P w (L.take (SetTable.below t.place (way t.mask (hsh P w r) K)) ++ (x, r) :: L.drop (SetTable.below t.place (way t.mask (hsh P w r) K))) := by
      rw [SetTable.toList_insertAt, R.ent]
      unfold ents
      rw [List.map_append, List.map_cons, List.map_take, List.map_drop]
    have u3' : TabOk t1 (hss P w (L.take (SetTable.below t.place (way t.mask (hsh P w r) K)) ++ (x, r) :: L.drop (SetTable.below t.place (way t.mask (hsh P w r) K)))) := by
      have : hss P w (L.take (SetTable.below t.place (way t.mask (hsh P w r) K)) ++ (x, r) :: L.drop (SetTable.below t.place (way t.mask (hsh P w r) K))) = (hss P w L).take (SetTable.below t.place (way t.mask (hsh P w r) K)) ++ hsh P w r :: (hss P w L).drop (SetTable.below t.place (way t.mask (hsh P w r) K)) := by
        unfold hss
        rw [List.map_append, List.map_cons, List.map_take, List.map_drop]
      rw [this]; exact u3
    generalize SetTable.below t.place (way t.mask (hsh P w r) K) = j at ins u3' ⊢
    clear u3 u2
    have pm : (L.take j ++ (x, r) :: L.drop j).Perm ((x, r) :: L) := by
      have := List.perm_middle (a := (x, r)) (l₁ := L.take j) (l₂ := L.drop j)
      rwa [List.take_append_drop] at this
    generalize L.take j ++ (x, r) :: L.drop j = N at pm ins u3'
    have n2 : N.length = L.length + 1 := pm.length_eq
    have nd2 : (N.map (·.2)).Nodup := (pm.map (·.2)).nodup_iff.mpr (List.nodup_cons.mpr ⟨z, R.nd⟩)
    have n3 : (SetTable.insertAt es j (hsh P w r, Value.ref x)).size = L.length + 1 := by rw [← Array.length_toList, ents_len ins, n2]
    generalize SetTable.insertAt es j (hsh P w r, Value.ref x) = es1 at ins n3 ⊢
    have led1 : w.params.followText "set-order" = true ∨ t1.led = true := by rw [u5]; exact R.led
    have place1 : t1.place.size = L.length + 1 := by
      have := u3'.sz
      unfold hss at this
      rw [this, List.length_map, n2]
    have fill1 : t1.fill = L.length + 1 := by rw [u9]; unfold hss; rw [List.length_map]
    -- whatever the table's mark is
    have both : ∀ c : Bool, wpAny (model P w) A (do
        storeSet a es1 (if c = true then t1 else { t1 with plain := false })
        if (!false && (if c = true then t1 else { t1 with plain := false }).tooFull) = true then setRelay a (SetTable.grown (es.size + 1))
        return true) Q E s := by
      intro c
      have props : ∀ t2 : SetTable, t2 = (if c = true then t1 else { t1 with plain := false }) → t2.mask = t.mask ∧ t2.led = t1.led ∧ TabOk t2 (hss P w N) ∧ t2.place.size = L.length + 1 ∧ t2.fill = L.length + 1 := by
        intro t2 e2
        cases c with
        | true => subst e2; exact ⟨u4, rfl, u3', place1, fill1⟩
        | false => subst e2; exact ⟨u4, rfl, tabOk_plain u3', place1, fill1⟩
      generalize hq : (if c = true then t1 else { t1 with plain := false }) = t2 at props
      obtain ⟨v1, v2, v3, v4, v5⟩ := props t2 rfl
      refine wpAny_bind (wpAny_storeSet_of ho hd ?_ (by rw [n3, sizeLine_eq]; omega))
      have sb : Heap.SameBut a s.heap (s.heap.update a (Obj.putSet es1 t2)) := Heap.SameBut.update ..
      have ho1 := L2.store_at (es' := es1) (t' := t2) ho hd
      generalize s.heap.update a (Obj.putSet es1 t2) = k1 at sb ho1 ⊢
      have row1 : ∀ p ∈ N, RowAt P w k1 p.2 p.1 := fun p hp => by
        rcases List.mem_cons.mp (pm.mem_iff.mp hp) with e | hp
        · rw [e]; exact row_same hx ho hd sb
        · exact row_same (R.row p hp) ho hd sb
      by_cases hf : t2.tooFull = true
      · have hf2 : (L.length + 1) * 5 ≥ t.mask * 3 := by
          have q := hf
          unfold SetTable.tooFull at q
          rw [decide_eq_true_eq, v5, v1] at q
          exact q
        have two : (t.mask = 7 ∧ L.length = 4) ∨ (t.mask = 31 ∧ L.length = 18) := by
          rcases R.tab.mok with q | q | q <;> rw [q] at hf2 room <;> omega
        have again : ∀ M, SetTable.sizeAbove (SetTable.grown (L.length + 1)) - 1 = M → MaskOk M → SetTable.sizeAbove (SetTable.grown (L.length + 1)) ≤ 128 → (L.length + 1) * 5 < M * 3 →
            wpAny (model P w) A (setRelay a (SetTable.grown (L.length + 1))) (fun _ z => wpAny (model P w) A (pure true) Q E z) E { s with heap := k1 } := fun M w1 w2 w3 w4 =>
          relay (s := { s with heap := k1 }) ho1 hex rfl ins (by rw [v4, n3]) v3.dm (by rw [n3, v1]; rcases two with ⟨q, q2⟩ | ⟨q, q2⟩ <;> omega) nd2 row1 (by rw [v2]; exact led1) (by rw [n2]; exact few) w1 w2 w3 (by rw [n2]; exact w4)
            fun k2 N2 es2 ep2 t3 sb2 R2 pm2 => wpAny_pure (fin true k2 N2 es2 ep2 t3 (sb.trans sb2) R2 (fun q => absurd q z) fun _ => pm2.trans pm)
        have go : wpAny (model P w) A (setRelay a (SetTable.grown (L.length + 1))) (fun _ z => wpAny (model P w) A (pure true) Q E z) E { s with heap := k1 } := by
          rcases two with ⟨_, q⟩ | ⟨_, q⟩
          · exact again 31 (by rw [q, size_20]) (.inr (.inl rfl)) (by rw [q, size_20]; decide) (by omega)
          · exact again 127 (by rw [q, size_76]) (.inr (.inr rfl)) (by rw [q, size_76]; decide) (by omega)
        rw [n1]
        first
          | exact wpAny_bind (wp_if_pos (by simp [hf]) go)
          | exact wp_if_pos (by simp [hf]) (wpAny_bind go)
      · have done : wpAny (model P w) A (pure true) Q E { s with heap := k1 } := by
          refine wpAny_pure (fin true k1 N es1 (ep + 1) t2 sb ⟨⟨_, ho1, hex, rfl⟩, ins, v3, nd2, row1, by rw [v2]; exact led1, ?_, by rw [n2]; exact few⟩ (fun q => absurd q z) fun _ => pm)
          have q := hf
          unfold SetTable.tooFull at q
          rw [decide_eq_true_eq, v5] at q
          rw [n2]; omega
        first
          | exact wpAny_bind (wp_if_neg (by simp [hf]) (wpAny_pure done))
          | exact wp_if_neg (by simp [hf]) done
    by_cases hp : t1.plain = true
    · first
        | exact wpAny_bind (wp_if_pos hp (row_val hx fun c => both c))
        | exact wp_if_pos hp (wpAny_bind (row_val hx fun c => both c))
    · first
        | exact wpAny_bind (wp_if_neg hp (wpAny_pure (both true)))
        | exact wp_if_neg hp (wpAny_bind (wpAny_pure (both true)))
        | exact wp_if_neg hp (both true)
end
end DL.Rs

/-! set(t), t a tuple -/
namespace DL.St
open PySem PySem.Spec L2 PyProof.Rows
section
variable {P : Program} {w : World} {A : Around} {E : Value → Shared → Prop} {s : Shared}
set_option maxHeartbeats 3200000 in
theorem call_setT {l : Addr} {items : Array Value} {Q : Value → Shared → Prop} (J : Heap → Prop) (nohd : A.handled = none) (lst : s.heap.IsTuple l items)
    (loop : ∀ (A' : Around) (I : Addr) (z : Shared) (R : Result → Shared → Prop) (b : Bool), A'.in1.units ≤ A.units + 3 → s.heap.get? I = none → b = (!w.params.followText "set-order") → z.heap.get? s.heap.objs.size = some (freshO b) → (∀ c o, s.heap.get? c = some o → z.heap.get? c = some o) → s.heap.objs.size ∉ [I, l] →
      WalksS P w A'.in1 I [I, l] [I] (fun a b => b = a) items.size (fun i v => items[i]? = some v) (fun i y => y.heap.IsTupleIter I l i ∧ y.heap.IsTuple l items) → (z.heap.IsTupleIter I l 0 ∧ z.heap.IsTuple l items) →
      (∀ y, Moved (s.heap.objs.size :: [I]) (fun a b => b = a) z y → J y.heap → R (.ok (.ret .none)) y) → codeAny (model P w) A' (.builtin "set.update.loop" ⟨[.ref s.heap.objs.size, .ref I], []⟩) R z)
    (fin : ∀ (k : Heap) (tk : Nat), J k → (∀ b o, s.heap.get? b = some o → k.get? b = some o) → Q (.ref s.heap.objs.size) { s with heap := k, toks := tk }) : wpAny (model P w) A (call (.type "set") [.ref l]) Q E s := by
  obtain ⟨cc, tl, hmro⟩ := F.called_set.mro
  have f1 := F.called_set.made
  have f2 := F.called_set.sub
  refine wpAny_call (codeAny_of_tree ?_)
  show wpAny _ _ (callAny (.type "set") _) _ _ _
  refine wpAny_pure ⟨Code.quiet_builtin _ (by decide +kernel), codeAny_builtin F.entry_type_call ?_⟩
  rw [Around.under_plain (weight_type_call_type "set" [.ref l] []) rfl]
  have f3 := F.called_set.notType
  have f4 := F.called_set.canCreate
  have f5 := F.typeCall_set_1 (.ref l)
  repeat (any_goals (first | assumption | wp_step))
  refine codeAny_mono (code_set_led1 (.ref l) (E := E) (Q₁ := fun ob z => ∃ b : Bool, b = (!w.params.followText "set-order") ∧ ob = .ref s.heap.objs.size ∧ z = { s with heap := s.heap.push (freshO b) }) ⟨_, rfl, rfl, rfl⟩) fun r z hr => ?_
  cases r with
  | error e => exact hr
  | ok fl =>
    cases fl with
    | ret ob =>
      obtain ⟨led, hled, rfl, rfl⟩ := hr
      have there : (s.heap.push (freshO led)).get? s.heap.objs.size = some (freshO led) := Heap.get?_push_size _ rfl
      have ty : Shared.TypeIs { s with heap := s.heap.push (freshO led) } (.ref s.heap.objs.size) "set" := ⟨_, there, rfl⟩
      have f6 := F.called_set.init.lookup
      have f7 := F.called_set.init.bind (.ref s.heap.objs.size)
      repeat (any_goals (first | assumption | wp_step))
      refine codeAny_mono (codeAny_call_builtin (R := wants (fun r y => r = .none ∧ ∃ k tk, y = { s with heap := k, toks := tk } ∧ J k ∧ (∀ b o, s.heap.get? b = some o → k.get? b = some o)) E) F.called_set.init.plain F.entry_set_init (check_set_init_1 ty ?_)) fun r2 y hr2 => ?_
      · obtain ⟨lo, e1, e2, ep, e3⟩ := lst
        obtain ⟨oc, od, odata, osl⟩ := lo
        simp only at e2 e3
        subst e2 e3
        have e4 : (s.heap.push (freshO led)).get? l = some { cls := .type "tuple", dict := od, data := .seq items ep, slots := osl } := Heap.get?_push_of_some _ e1
        have g1 := F.sub_tuple_set
        have g2 := F.sub_tuple_frozenset
        have g3 : (Value.type "tuple" == Value.type "dict") = false := by decide
        have lst2 : (s.heap.push (freshO led)).IsTuple l items := ⟨_, e4, rfl, ep, rfl⟩
        unfold Builtin.«set.__init__» noKeywords Builtin.Frozenset.updateFrom
        generalize hPI : pyIter = PI
        wp_walk
        subst hPI
        refine wpAny_pyIter_tuple lst2 (wpAny_bind (wpAny_runValue ?_))
        have lS : l < s.heap.objs.size := Heap.lt_size e1
        have hd3 : A.in1.in1.in1.handled = none := by simp [nohd]
        have nI : l ≠ (s.heap.push (freshO led)).objs.size := by
          rw [Heap.size_push]; exact Nat.ne_of_lt (Nat.lt_succ_of_lt lS)
        have offS : s.heap.objs.size ∉ [(s.heap.push (freshO led)).objs.size, l] := by
          rw [Heap.size_push]; simp only [List.mem_cons, List.mem_singleton, List.not_mem_nil, or_false, not_or]
          exact ⟨Nat.ne_of_lt (Nat.lt_succ_self _), Nat.ne_of_gt lS⟩
        have nI0 : s.heap.get? (s.heap.push (freshO led)).objs.size = none := by
          cases q : s.heap.get? (s.heap.push (freshO led)).objs.size with
          | none => rfl
          | some o => exact absurd (Heap.lt_size q) (by rw [Heap.size_push]; exact Nat.not_lt.mpr (Nat.le_succ _))
        refine loop _ _ _ _ led (Nat.le_refl _) nI0 hled (Heap.get?_push_of_some _ there) (fun c o e => Heap.get?_push_of_some _ (Heap.get?_push_of_some _ e)) offS (Walks.tuple hd3 _ l nI items).toS ⟨⟨_, Heap.get?_push_size _ rfl, rfl, rfl⟩, lst2.push _⟩ fun y mv j => ?_
        obtain ⟨k, g', d', tk', os'⟩ := y
        have q1 : g' = s.gens := mv.gens
        have q2 : d' = s.drawn := mv.drawn
        have q3 : os' = s.os := mv.os
        subst q1 q2 q3
        show wpAny _ _ _ _ _ _
        refine wpAny_pure ?_
        show wpAny _ _ (PySem.ret Value.none) _ _ _
        refine wpAny_pure ⟨rfl, k, tk', rfl, j, fun b o e => ?_⟩
        have lt := Heap.lt_size e
        have n1 : b ≠ s.heap.objs.size := Nat.ne_of_lt lt
        have n2 : b ≠ (s.heap.push (freshO led)).objs.size := by
          rw [Heap.size_push]; exact Nat.ne_of_lt (Nat.lt_succ_of_lt lt)
        exact mv.heap b o (by simp only [List.mem_cons, List.mem_singleton, List.not_mem_nil, or_false, not_or]; exact ⟨n1, n2⟩) (Heap.get?_push_of_some _ (Heap.get?_push_of_some _ e))
      · cases r2 with
        | error e => exact hr2
        | ok fl2 =>
          cases fl2 with
          | ret r =>
            obtain ⟨rfl, k, tk, rfl, j, kp⟩ := hr2
            repeat (any_goals (first | assumption | wp_step))
            exact fin _ _ j kp
          | _ => exact hr2.elim
    | _ => exact hr.elim
end
end DL.St

/-! set(xs), xs a list or a tuple of rows of texts; sorted of it -/
namespace DL.Rs
open PySem PySem.Spec L2 PyProof.Rows PySem.W
section
variable {P : Program} {w : World} {A : Around} {E : Value → Shared → Prop} {s : Shared} {R : Result → Shared → Prop} {I : Addr} {fp wr : List Addr} {G : Array GenState → Array GenState → Prop} {n : Nat} {PV : Nat → Value → Prop} {St : Nat → Shared → Prop}
/-- what the first rows give -/
structure Has (ks : List Ad) (L : List Ad) : Prop where
  sub : ∀ p ∈ L, p ∈ ks
  all : ∀ p ∈ ks, p.2 ∈ L.map (·.2)
/-- few unlike rows -/
def Few (ks : List Ad) : Prop := ∀ M : List Row, M.Nodup → (∀ r ∈ M, r ∈ ks.map (·.2)) → M.length ≤ cap
theorem SetAt.mv {h h' : Heap} {a : Addr} {L : List Ad} {es : Array (Int × Value)} {ep : Nat} {t : SetTable} (r : SetAt P w h a L es ep t) (ka : ∀ o, h.get? a = some o → h'.get? a = some o) (kr : ∀ p ∈ L, RowAt P w h' p.2 p.1) : SetAt P w h' a L es ep t := by
  obtain ⟨o, ho, q⟩ := r.at_
  exact ⟨⟨o, ka o ho, q⟩, r.ent, r.tab, r.nd, kr, r.led, r.room, r.few⟩
theorem loop (W : WalksS P w A.in1 I fp wr G n PV St) (a : Addr) (off : a ∉ fp) (ks : List Ad) (hn : ks.length = n) (val : ∀ i v, PV i v → ∃ p, ks[i]? = some p ∧ v = .ref p.1) (few : Few ks) (h0 : Heap) (rows : ∀ p ∈ ks, RowAt P w h0 p.2 p.1) (h0a : h0.get? a = none) (h0w : ∀ b ∈ wr, h0.get? b = none) (hu : A.in1.units < cLine) :
    ∀ (left i : Nat) (s : Shared) (L : List Ad) (es : Array (Int × Value)) (ep : Nat) (t : SetTable), n - i = left → i ≤ n → St i s → (∀ b o, h0.get? b = some o → s.heap.get? b = some o) → SetAt P w s.heap a L es ep t → Has (ks.take i) L →
      (∀ (z : Shared) (M : List Ad) es ep t, Moved (a :: wr) G s z → SetAt P w z.heap a M es ep t → Has ks M → R (.ok (.ret .none)) z) → codeAny (model P w) A (.builtin "set.update.loop" ⟨[.ref a, .ref I], []⟩) R s := by
  have offw : a ∉ wr := fun h => off (W.sub _ h)
  have sub : ∀ b ∈ wr, b ∈ a :: wr := fun b hb => List.mem_cons_of_mem _ hb
  have kept : ∀ {s z : Shared}, Moved wr G s z → (∀ b o, h0.get? b = some o → s.heap.get? b = some o) → ∀ b o, h0.get? b = some o → z.heap.get? b = some o := fun mv kp b o e => mv.heap b o (fun hb => by rw [h0w b hb] at e; cases e) (kp b o e)
  intro left
  induction left with
  | zero =>
    intro i s L es ep t e1 e2 st kp sr got fin
    have ei : i = n := by omega
    subst ei
    refine codeAny_builtin F.entry_set_update_loop ?_
    rw [Around.under_plainId F.plain_set_update_loop _]
    refine wpAny_bind (m := pyNext (.ref I)) (W.done s _ _ st fun z mv => ?_)
    show wpAny _ A.in1 (PySem.ret Value.none) _ _ z
    rw [← hn, List.take_length] at got
    have kp2 := kept mv kp
    exact wpAny_pure (fin z L es ep t (mv.mono sub) (sr.mv (fun o e => mv.heap a o offw e) fun p hp => row_keep (rows p (got.sub p hp)) kp2) got)
  | succ left ih =>
    intro i s L es ep t e1 e2 st kp sr got fin
    have lt : i < n := by omega
    refine codeAny_builtin F.entry_set_update_loop ?_
    rw [Around.under_plainId F.plain_set_update_loop _]
    refine wpAny_bind (m := pyNext (.ref I)) (W.item i s _ _ lt st fun v z pv st1 mv => ?_)
    obtain ⟨p, hp, rfl⟩ := val i v pv
    have kp2 := kept mv kp
    have tsub : ∀ q ∈ ks.take i, q ∈ ks := fun q hq => List.mem_of_mem_take hq
    have sr1 : SetAt P w z.heap a L es ep t := sr.mv (fun o e => mv.heap a o offw e) fun q hq => row_keep (rows q (tsub q (got.sub q hq))) kp2
    have rp : RowAt P w z.heap p.2 p.1 := row_keep (rows p (List.mem_of_getElem? hp)) kp2
    show wpAny _ A.in1 (holding [Value.ref p.1] (setAdd a (.ref p.1)) >>= _) _ _ z
    refine wpAny_bind (wpAny_holding ?_)
    unfold setAdd
    refine wpAny_holding (wpAny_bind (wpAny_pyHash_tuple hu rp ?_))
    refine add (s := { z with toks := z.toks + (p.2.length + 1) }) sr1 rp hu (fun hno => ?_) fun b k M es2 ep2 t2 sb sr2 same more => ?_
    · have := few (p.2 :: L.map (·.2)) (List.nodup_cons.mpr ⟨hno, sr.nd⟩) fun r hr => by
        rcases List.mem_cons.mp hr with q | q
        · rw [q]; exact List.mem_map.mpr ⟨p, List.mem_of_getElem? hp, rfl⟩
        · obtain ⟨q2, q3, rfl⟩ := List.mem_map.mp q
          exact List.mem_map.mpr ⟨q2, tsub _ (got.sub _ q3), rfl⟩
      rw [List.length_cons, List.length_map] at this
      exact this
    · have tk : ks.take (i + 1) = ks.take i ++ [p] := by rw [List.take_add_one, hp]; rfl
      have got2 : Has (ks.take (i + 1)) M := by
        rw [tk]
        by_cases hm : p.2 ∈ L.map (·.2)
        · rw [same hm]
          exact ⟨fun q hq => List.mem_append_left _ (got.sub q hq), fun q hq => (List.mem_append.mp hq).elim (got.all q) fun z => by rw [List.mem_singleton.mp z]; exact hm⟩
        · have pm := more hm
          refine ⟨fun q hq => ?_, fun q hq => (pm.map (·.2)).mem_iff.mpr ?_⟩
          · rcases List.mem_cons.mp (pm.mem_iff.mp hq) with z | z
            · rw [z]; exact List.mem_append_right _ List.mem_cons_self
            · exact List.mem_append_left _ (got.sub q z)
          · rw [List.map_cons]
            rcases List.mem_append.mp hq with z | z
            · exact List.mem_cons_of_mem _ (got.all q z)
            · rw [List.mem_singleton.mp z]; exact List.mem_cons_self
      have kp3 : ∀ b o, h0.get? b = some o → k.get? b = some o := fun b o e => (sb.2 b fun q => by rw [q, h0a] at e; cases e).trans (kp2 b o e)
      refine wpAny_pure ⟨plainId_quiet F.plain_set_update_loop _, ih (i + 1) _ M es2 ep2 t2 (by omega) lt (W.frame _ z _ _ st1 (Nat.le_add_right _ _) fun b hb o e => ?_) kp3 sr2 got2 fun y M2 es3 ep3 t3 mv2 sr3 got3 => ?_⟩
      · rw [sb.2 b fun q => off (by rw [← q]; exact hb)]; exact e
      · refine fin y M2 es3 ep3 t3 (Moved.trans W.gtrans ((mv.mono sub).then_heap (Nat.le_add_right _ _) fun b o hb e => ?_) mv2) sr3 got3
        rw [sb.2 b fun q => hb (by rw [q]; exact List.mem_cons_self)]; exact e
end
/-- the set, but for its rows -/
structure Set0 (P : Program) (w : World) (h : Heap) (a : Addr) (L : List Ad) : Prop where
  ex : ∃ (o : Obj) (es : Array (Int × Value)) (ep : Nat) (t : SetTable), h.get? a = some o ∧ o.ExactSet ∧ o.data = .set es ep t ∧ es.toList = ents P w L ∧ TabOk t (hss P w L) ∧ (L.map (·.2)).Nodup ∧ (w.params.followText "set-order" = true ∨ t.led = true) ∧ L.length * 5 < t.mask * 3 ∧ L.length ≤ cap
def SetRO (P : Program) (w : World) (a : Addr) (L : List Ad) : HO := .ext fun h => Set0 P w h a L
section
variable {X : Cx}
theorem SetAt.zero {P : Program} {w : World} {h : Heap} {a : Addr} {L : List Ad} {es : Array (Int × Value)} {ep : Nat} {t : SetTable} (R : SetAt P w h a L es ep t) : Set0 P w h a L := by
  obtain ⟨o, ho, h1, h2⟩ := R.at_
  exact ⟨o, es, ep, t, ho, h1, h2, R.ent, R.tab, R.nd, R.led, R.room, R.few⟩
theorem Set0.full {P : Program} {w : World} {h : Heap} {a : Addr} {L : List Ad} (R : Set0 P w h a L) (row : ∀ p ∈ L, RowAt P w h p.2 p.1) : ∃ es ep t, SetAt P w h a L es ep t := by
  obtain ⟨o, es, ep, t, ho, h1, h2, h3, h4, h5, h6, h7, h8⟩ := R.ex
  exact ⟨es, ep, t, ⟨o, ho, h1, h2⟩, h3, h4, h5, row, h6, h7, h8⟩
theorem setRO_ok {P : Program} {w : World} {H : Hp} {h : Heap} {a : Addr} {L : List Ad} (R : Set0 P w h a L) : ObjOk P w H h a (SetRO P w a L) := by
  obtain ⟨o, es, ep, t, ho, r⟩ := R.ex
  refine ⟨R, ⟨o, ho⟩, fun h1 h2 p k => ?_⟩
  obtain ⟨o', es', ep', t', ho', r'⟩ := Set0.ex p
  exact ⟨⟨o', es', ep', t', k o' ho', r'⟩⟩
theorem items_row {P : Program} {w : World} : ∀ {r : Row} {us : List Value}, Vals (r.map V.str) us → ItemsAre (strKind P w) r us
  | [], _, .nil => .nil
  | x :: r, _, .cons e t => by
    obtain ⟨tk, rfl⟩ := e
    exact .cons (by show Value.isStrOf x (.str x tk) = true; simp [Value.isStrOf]) (items_row t)
theorem inv_row {pins : List (Addr × Obj)} {σ : L2.St} {H : Hp} {s : Shared} {b : Addr} {r : Row} (I : Inv X pins σ H s) (h : SqT X.K H b (r.map V.str)) : RowAt X.prog X.w s.heap r b := by
  obtain ⟨its, rv, ⟨o, ho, hc, n, hd⟩, _⟩ := I.tuple h
  exact ⟨o, its.toArray, n, ho, hc, hd, by simpa using items_row rv⟩
theorem refs_vals : ∀ {ks : List Ad} {us : List Value}, Vals (ks.map fun p => V.ref p.1) us → us = ks.map fun p => Value.ref p.1
  | [], _, .nil => rfl
  | p :: ks, _, .cons e t => by
    cases e
    rw [refs_vals t]; rfl
theorem vals_refs : ∀ ks : List Ad, Vals (ks.map fun p => V.ref p.1) (ks.map fun p => Value.ref p.1)
  | [] => .nil
  | p :: ks => .cons rfl (vals_refs ks)
/-- set(xs) -/
def rSetR (K : PySem.W.Frag) (P : Program) (w : World) : List V → Hp → VK → Prop := fun vs H Q => ∃ (l : Addr) (ks : List Ad), vs = [.ref l] ∧ (SqL K H l (ks.map fun p => V.ref p.1) ∨ SqT K H l (ks.map fun p => V.ref p.1)) ∧ (∀ p ∈ ks, SqT K H p.1 (p.2.map V.str)) ∧ Few ks ∧
  ∀ (p : Addr) (L : List Ad), H p = none → Has ks L → (L.map (·.2)).Nodup → Q (.ref p) (upd H p (SetRO P w p L))
theorem fresh_at {P : Program} {w : World} {h : Heap} {a : Addr} {b : Bool} (hb : b = (!w.params.followText "set-order")) (e : h.get? a = some (St.freshO b)) : SetAt P w h a [] #[] 0 (.fresh 0 0 b) where
  at_ := ⟨_, e, ⟨rfl, rfl, rfl⟩, rfl⟩
  ent := rfl
  tab := ⟨List.Pairwise.nil, rfl, rfl, .inl rfl, fun x hx => (by cases hx), fun i h j hi => (by simp [hss] at hi)⟩
  nd := List.nodup_nil
  row := fun p hp => (by cases hp)
  led := by
    subst hb
    show _ ∨ (!w.params.followText "set-order") = true
    cases w.params.followText "set-order"
    · exact .inr rfl
    · exact .inl rfl
  room := by show 0 * 5 < 7 * 3; decide
  few := Nat.zero_le _
theorem none_from {s : Shared} : ∀ b, s.heap.objs.size ≤ b → s.heap.get? b = none := fun b hb => by
  cases q : s.heap.get? b with
  | none => rfl
  | some o => exact absurd (Nat.lt_of_lt_of_le (Heap.lt_size q) hb) (Nat.lt_irrefl _)
end
end DL.Rs

/-! sorting one thing, of any kind -/
namespace DL
open PySem PySem.Spec PySem.W PyProof.Rows
theorem general_lt (x y : Value) : keyLt' general' x y = oneLt' false x y := rfl
def Sortable1 (ds : List PyData) : Prop := Sortable ds ∨ (ds.length ≤ 1 ∧ ∀ d ∈ ds, d ≠ .none)
section
variable {prog : Program} {w : World} {A : Around} {E : Value → Shared → Prop} {s : Shared} {β : Type} {vs : List Value} {bs : List β} {enc : β → PyData} {R : Value → β → Prop}
theorem sortsAt_one {vs : List Value} {ds : List PyData} (e : EachIs (fun v d => ∃ as, Reads s.heap v d as) vs ds) (hal : AllAlike ds) (hk : Sortable1 ds) (hu : ∀ d, d ∈ ds → A.units + d.depth < cLine) : SortsAt prog w A s (dataKind s.heap ds) vs := by
  rcases hk with hk | ⟨h1, hn⟩
  · exact SortsAt.data e hal hk hu
  · refine ⟨fun v hv => ?_, general', ?_, fun h2 => ?_⟩
    · obtain ⟨d, hd, as, r⟩ := e.left v hv
      exact ⟨_, dataKind_some hal hd r⟩
    · intro E x y a b Q ha hb hq
      obtain ⟨d, as, hd, ra, rfl⟩ := dataKind_inv ha
      obtain ⟨d', as', hd', rb, rfl⟩ := dataKind_inv hb
      rw [general_lt]
      exact oneLt_alike (fun z => by cases z) ra rb (hal d hd d' hd') (hn d hd) (Nat.lt_of_le_of_lt (Nat.add_le_add_left (Nat.min_le_left _ _) _) (hu d hd)) hq
    · have := e.length
      omega
theorem list_sort_few {a : Addr} {n : Nat} {Q : Value → Shared → Prop} (ho : s.heap.get? a = some (seqObj "list" vs.toArray n)) (e : EachIs R vs bs) (er : EachIs (fun v b => ∃ as, Reads s.heap v (enc b) as ∧ a ∉ as) vs bs) (hal : AllAlike (bs.map enc)) (hk : Sortable1 (bs.map enc)) (hL : bs.length ≤ sizeLine)
    (hu : ∀ b, b ∈ bs → A.units + 1 + (enc b).depth < cLine) (h : ∀ out, out.length = bs.length → EachIs R out (bs.mergeSort (dataLe false enc)) → Q .none { s with heap := sortedHeap s.heap a vs (List.toArray out) }) :
    wpAny (model prog w) A (call (.builtin "list.sort") [.ref a]) Q E s := by
  have er' : EachIs (fun v b => ∃ as, Reads (sortingHeap s.heap a vs) v (enc b) as) vs bs := each_keepBut (h' := sortingHeap s.heap a vs) (fun _ _ hb q => sortingHeap_old hb q) (fun o q => by rw [ho] at q; rw [← Option.some.inj q]) hal er
  refine wpAny_call_entry slot_list_sort ⟨_, ho, rfl⟩ entry_list_sort (list_sort_vals (κ := dataKind (sortingHeap s.heap a vs) (bs.map enc)) ho (sortsAt_one (s := { s with heap := sortingHeap s.heap a vs }) (each_map (R := fun v d => ∃ as, Reads (sortingHeap s.heap a vs) v d as) enc er') hal hk (bound_map hu)) (by rw [e.length]; exact hL) ⟨.none, rfl, ?_⟩) (args_list_sort _)
  exact h _ (by rw [sortVals_length false rfl]; exact e.length) (sortVals_data false e er' hal)
theorem sorted_few {l : Addr} {Q : Value → Shared → Prop} (hl : s.heap.IsList l vs.toArray) (e : EachIs R vs bs) (er : EachIs (fun v b => ∃ as, Reads s.heap v (enc b) as) vs bs) (hal : AllAlike (bs.map enc)) (hk : Sortable1 (bs.map enc)) (hL : bs.length ≤ sizeLine)
    (hu : ∀ b, b ∈ bs → A.units + 2 + (enc b).depth < cLine) (h : ∀ out, out.length = bs.length → EachIs R out (bs.mergeSort (dataLe false enc)) → Q (.ref (s.heap.objs.size + 1)) { s with heap := sortedAll s.heap vs (List.toArray out) }) :
    wpAny (model prog w) A (call (.builtin "sorted") [.ref l]) Q E s := by
  have er' : EachIs (fun v b => ∃ as, Reads (sortingHeap (copyHeap s.heap vs) (s.heap.objs.size + 1) vs) v (enc b) as) vs bs := er.mono fun _ _ ⟨as, r⟩ => ⟨as, PyProof.Rows.Reads.keeps (fun _ _ => sorting_copy_old) r⟩
  exact sorted_vals hl (sortsAt_one (s := { s with heap := sortingHeap (copyHeap s.heap vs) (s.heap.objs.size + 1) vs }) (each_map (R := fun v d => ∃ as, Reads (sortingHeap (copyHeap s.heap vs) (s.heap.objs.size + 1) vs) v d as) enc er') hal hk (bound_map hu)) (by rw [e.length]; exact hL)
    (h _ (by rw [sortVals_length false rfl]; exact e.length) (sortVals_data false e er' hal))
end
end DL

/-! sorted(a set of rows), as calls -/
namespace DL.Rs
open PySem PySem.Spec L2 PyProof.Rows PySem.W
/-- rows by their codes -/
def cpsR (r : Row) : List (List Nat) := r.map fun x => x.cps.toList
def leR (r q : Row) : Bool := decide (cpsR r ≤ cpsR q)
def encR (r : Row) : PyData := .tuple (r.map .str)
theorem alike_row : ∀ r q : Row, alikeAll (r.map .str) (q.map .str) = true
  | [], _ => by simp [alikeAll]
  | _ :: _, [] => by simp [alikeAll]
  | x :: r, y :: q => by
    show alikeAll (.str x :: r.map .str) (.str y :: q.map .str) = true
    rw [alikeAll, alike_row r q]
    simp [alike]
theorem lt_rows : ∀ r q : Row, rowLt (r.map .str) (q.map .str) = decide (cpsR r < cpsR q)
  | [], [] => by
    have : rowLt [] [] = false := lex_irrefl _
    simp [this, cpsR]
  | [], y :: q => by
    have : rowLt [] (PyData.str y :: q.map .str) = true := by
      unfold rowLt
      rw [toks_all_cons]
      simp only [keyToksAll]
      rw [lex_diff (O := itemOrd) (by simp)]
      rfl
    simpa [cpsR] using this
  | x :: r, [] => by
    have : rowLt (PyData.str x :: r.map .str) [] = false := by
      unfold rowLt
      rw [toks_all_cons]
      simp only [keyToksAll]
      rw [lex_diff (O := itemOrd) (by simp)]
      rfl
    simpa [cpsR] using this
  | x :: r, y :: q => by
    have e : rowLt (PyData.str x :: r.map .str) (PyData.str y :: q.map .str) = if x = y then rowLt (r.map .str) (q.map .str) else decide (x.cps.toList < y.cps.toList) := by
      unfold rowLt
      rw [dataLt_cons (by simp [alike]), dataLt_str]
      simp only [PyData.eqv, beq_iff_eq]
    show rowLt (PyData.str x :: r.map .str) (PyData.str y :: q.map .str) = _
    rw [e]
    have ih := lt_rows r q
    by_cases h : x = y
    · subst h
      rw [if_pos rfl, ih, decide_eq_decide]
      unfold cpsR
      rw [List.map_cons, List.map_cons, List.cons_lt_cons_iff]
      exact ⟨fun z => .inr ⟨rfl, z⟩, fun z => z.elim (fun k => absurd k (List.lt_irrefl _)) (·.2)⟩
    · rw [if_neg h]
      have h2 : x.cps.toList ≠ y.cps.toList := fun z => h (str_of_cps z)
      unfold cpsR
      rw [List.map_cons, List.map_cons, decide_eq_decide, List.cons_lt_cons_iff]
      exact ⟨.inl, fun z => z.resolve_right fun k => h2 k.1⟩
theorem le_rows {β : Type} (f : β → Row) : dataLe false (fun b => encR (f b)) = fun a b => leR (f a) (f b) := by
  funext a b
  show (!dataLt (encR (f b)) (encR (f a))) = _
  unfold encR
  rw [dataLt_tuple]
  show (!rowLt _ _) = _
  rw [lt_rows]
  unfold leR
  by_cases h : cpsR (f b) < cpsR (f a)
  · have h' : ¬ cpsR (f a) ≤ cpsR (f b) := fun r => List.not_lt.mpr r h
    simp [h, h']
  · have h' : cpsR (f a) ≤ cpsR (f b) := List.not_lt.mp h
    simp [h, h']
section
variable {P : Program} {w : World} {A : Around} {E : Value → Shared → Prop} {s : Shared} {a : Addr} {L : List Ad}
/-- the members that the values are -/
theorem pick {es : List (Int × Value)} (e : es = ents P w L) {vs : List Value} (pm : vs.Perm (es.map (·.2))) : ∃ M : List Ad, vs = M.map (fun p => Value.ref p.1) ∧ M.Perm L := by
  have e2 : es.map (·.2) = L.map fun p => Value.ref p.1 := by
    rw [e]; unfold ents; rw [List.map_map]; rfl
  rw [e2] at pm
  have gen : ∀ {l m : List Value}, l.Perm m → ∀ L : List Ad, m = L.map (fun p => Value.ref p.1) → ∃ M : List Ad, l = M.map (fun p => Value.ref p.1) ∧ M.Perm L := by
    intro l m h
    induction h with
    | nil => intro L e; exact ⟨L, e, .refl _⟩
    | cons v h ih =>
      intro L e
      cases L with
      | nil => cases e
      | cons p L =>
        injection e with e1 e2
        obtain ⟨M, f1, f2⟩ := ih L e2
        exact ⟨p :: M, by rw [f1, e1]; rfl, f2.cons p⟩
    | swap u v l =>
      intro L e
      match L, e with
      | [], e => cases e
      | [_], e => cases e
      | p :: q :: L, e =>
        injection e with e1 e2
        injection e2 with e3 e4
        exact ⟨q :: p :: L, by rw [e1, e3, e4]; rfl, .swap _ _ _⟩
    | trans h1 h2 i1 i2 =>
      intro L e
      obtain ⟨M, f1, f2⟩ := i2 L e
      obtain ⟨N, g1, g2⟩ := i1 M f1
      exact ⟨N, g1, g2.trans f2⟩
  exact gen pm L rfl
theorem reads_row {h : Heap} {r : Row} {b : Addr} (i : RowAt P w h r b) : Reads h (.ref b) (encR r) [] := by
  obtain ⟨o, items, n, ho, hc, hd, hi⟩ := i
  refine Reads.tuple ho hc hd ?_
  generalize items.toList = vs at hi
  induction hi with
  | nil => exact .nil
  | @cons x v r us e _ ih =>
    obtain ⟨t, rfl⟩ := Value.isStrOf_shape e
    exact ReadsAll.cons (as := []) (bs := []) (.str x t) ih
theorem each_ref {h : Heap} {c : Addr} : ∀ {M : List Ad}, (∀ p ∈ M, RowAt P w h p.2 p.1) → EachIs (fun v (p : Ad) => v = Value.ref p.1) (M.map fun p => Value.ref p.1) M ∧ EachIs (fun v (p : Ad) => ∃ as, Reads h v (encR p.2) as ∧ c ∉ as) (M.map fun p => Value.ref p.1) M
  | [], _ => ⟨.nil, .nil⟩
  | p :: M, q => by
    obtain ⟨h1, h2⟩ := each_ref (c := c) (M := M) fun x hx => q x (List.mem_cons_of_mem _ hx)
    exact ⟨.cons rfl h1, .cons ⟨[], reads_row (q p List.mem_cons_self), by simp⟩ h2⟩
theorem each_out : ∀ {out : List Value} {M : List Ad}, EachIs (fun v (p : Ad) => v = Value.ref p.1) out M → out = M.map fun p => Value.ref p.1
  | _, _, .nil => rfl
  | _, _, .cons e t => by rw [e, each_out t]; rfl
theorem sorted_rows {es : Array (Int × Value)} {ep : Nat} {t : SetTable} {Q : Value → Shared → Prop} (R : SetAt P w s.heap a L es ep t) (nohd : A.handled = none) (hu : A.units + 100 < cLine) (ne : (∀ p ∈ L, p.2 ≠ []) ∨ L.length ≤ 1)
    (fin : ∀ (z : Shared) (p : Addr) (c : Nat) (M : List Ad), (∀ b o, s.heap.get? b = some o → z.heap.get? b = some o) → z.gens = s.gens → z.os = s.os → s.heap.objs.size ≤ p → M.Perm L → z.heap.get? p = some (seqObj "list" ((M.mergeSort fun x y => leR x.2 y.2).map fun p => Value.ref p.1).toArray c) → Q (.ref p) z) :
    wpAny (model P w) A (call (.builtin "sorted") [.ref a]) Q E s := by
  obtain ⟨o, ho, hx, hd⟩ := R.at_
  have n1 := R.len
  have lim : cap = 76 := rfl
  have few := R.few
  refine Calls.call_function_entry kind_sorted plain_sorted entry_sorted (args_sorted1 _) ?_
  unfold Builtin.«sorted»
  refine wpAny_bind (m := checkCount "sorted" 1 1 _) (wpAny_pure ?_)
  refine wpAny_bind (collect_set (A := A.in1) nohd ⟨o, ho, hx.1, hd⟩ R.fit (by rw [n1]; show L.length < 4096; omega) R.tab.ris R.led fun z vs kp grow g1 o1 pm => ?_)
  obtain ⟨M, rfl, pM⟩ := pick R.ent pm
  have len : M.length ≤ cap := by rw [pM.length_eq]; exact few
  refine wpAny_bind (wpAny_newList ?_ (by rw [List.length_map, sizeLine_eq]; omega))
  have at0 : (z.heap.push (seqObj "list" (M.map fun p => Value.ref p.1).toArray 0)).get? z.heap.objs.size = some (seqObj "list" (M.map fun p => Value.ref p.1).toArray 0) := Heap.get?_push_size _ rfl
  have row : ∀ p ∈ M, RowAt P w (z.heap.push (seqObj "list" (M.map fun p => Value.ref p.1).toArray 0)) p.2 p.1 := fun p hp => row_keep (R.row p (pM.mem_iff.mp hp)) fun c u e => Heap.get?_push_of_some _ (kp c u e)
  obtain ⟨ev, er⟩ := each_ref (c := z.heap.objs.size) row
  refine wpAny_bind (wpAny_holding (list_sort_few (A := A.in1) (s := { z with heap := z.heap.push (seqObj "list" (M.map fun p => Value.ref p.1).toArray 0) }) (enc := fun p : Ad => encR p.2) at0 ev er ?_ ?_ (by rw [sizeLine_eq]; omega) (fun p _ => ?_) fun out l1 l2 => ?_))
  · exact AllAlike.of fun p q => by
      show alikeAll _ _ = true
      exact alike_row p.2 q.2
  · rcases ne with ne | ne
    · refine .inl (.inl fun d hd => ?_)
      obtain ⟨p, hp, rfl⟩ := List.mem_map.mp hd
      have := ne p (pM.mem_iff.mp hp)
      unfold encR
      cases q : p.2 with
      | nil => exact absurd q this
      | cons x r => exact ⟨_, _, rfl⟩
    · refine .inr ⟨by rw [List.length_map, pM.length_eq]; exact ne, fun d hd => ?_⟩
      obtain ⟨p, hp, rfl⟩ := List.mem_map.mp hd
      exact fun z => PyData.noConfusion z
  · have : (encR p.2).depth ≤ 1 := by
      unfold encR
      show PyData.depthAll _ + 1 ≤ 1
      have : ∀ r : Row, PyData.depthAll (r.map .str) = 0 := by
        intro r
        induction r with
        | nil => rfl
        | cons x r ih => show max 0 _ = 0; rw [ih]; rfl
      rw [this]; exact Nat.le_refl _
    show A.units + 1 + 1 + (encR p.2).depth < cLine
    omega
  · rw [le_rows (fun p : Ad => p.2)] at l2
    have e := each_out l2
    subst e
    obtain ⟨c, hc⟩ := sortedHeap_at (vs := M.map fun p => Value.ref p.1) (out := ((M.mergeSort fun x y => leR x.2 y.2).map fun p => Value.ref p.1).toArray) at0
    refine wpAny_pure ⟨_, rfl, fin _ z.heap.objs.size c M (fun b u e => ?_) g1 o1 grow pM hc⟩
    have q := kp b u e
    have lt := Heap.lt_size q
    show (sortedHeap (z.heap.push (seqObj "list" (M.map fun p => Value.ref p.1).toArray 0)) z.heap.objs.size _ _).get? b = some u
    rw [sortedHeap_old (Nat.ne_of_lt lt) (by rw [size_push']; exact Nat.lt_succ_of_lt lt)]
    exact Heap.get?_push_of_some _ q
end
section
variable {X : Cx}
theorem cr_setR (hc : X.A.handled = none) (hu : X.A.units + 100 < cLine) : CallR X (.type "set") (rSetR X.K X.prog X.w) := by
  intro pins s σ H vs us Q I r h
  obtain ⟨l, ks, rfl, hs, rows, few, q⟩ := h
  rw [Vals.ref1 r]
  have nw : H s.heap.objs.size = none := I.hok.fresh (Nat.le_refl _)
  have rw_ : ∀ p ∈ ks, RowAt X.prog X.w s.heap p.2 p.1 := fun p hp => inv_row I (rows p hp)
  have val : ∀ {its : List Value}, Vals (ks.map fun p => V.ref p.1) its → its.length = ks.length ∧ ∀ (i : Nat) (v : Value), its.toArray[i]? = some v → ∃ p, ks[i]? = some p ∧ v = .ref p.1 := fun rv => by
    have e := refs_vals rv
    subst e
    refine ⟨by simp, fun i v hv => ?_⟩
    have hv : (ks.map fun p => Value.ref p.1)[i]? = some v := by simpa using hv
    rw [List.getElem?_map] at hv
    cases q : ks[i]? with
    | none => rw [q] at hv; cases hv
    | some p => rw [q] at hv; exact ⟨p, rfl, (Option.some.inj hv).symm⟩
  have done : ∀ (k : Heap) (tk : Nat), (∃ L es ep t, SetAt X.prog X.w k s.heap.objs.size L es ep t ∧ Has ks L) → (∀ b o, s.heap.get? b = some o → k.get? b = some o) → ∃ x H', Inv X pins σ H' { s with heap := k, toks := tk } ∧ RelV x (.ref s.heap.objs.size) ∧ Q x H' := fun k tk j kp => by
    obtain ⟨L, es, ep, t, sr, got⟩ := j
    exact ⟨.ref s.heap.objs.size, _, I.laid (t' := tk) kp (Nat.le_refl _) (setRO_ok sr.zero), rfl, q _ L nw got sr.nd⟩
  rcases hs with hs | hs
  · obtain ⟨its, rv, pl, hz⟩ := I.list hs
    obtain ⟨len, vals⟩ := val rv
    refine St.call_set (P := X.prog) (w := X.w) (fun k => ∃ L es ep t, SetAt X.prog X.w k s.heap.objs.size L es ep t ∧ Has ks L) hc pl.isList (fun A' I' z R b hA hI hb e1 kp off W st fin => ?_) fun k tk j kp => done k tk j kp
    refine loop (St := fun i y => y.heap.IsListIter I' l i ∧ y.heap.IsList l its.toArray) W s.heap.objs.size off ks (by simp [len]) vals few s.heap rw_ (none_from _ (Nat.le_refl _)) (fun b hb => by rw [List.mem_singleton.mp hb]; exact hI) (by omega) (its.toArray.size - 0) 0 z [] #[] 0 _ rfl (Nat.zero_le _) st kp (fresh_at hb e1) ⟨fun p h => (by cases h), fun p h => (by rw [List.take_zero] at h; cases h)⟩ fun y M es ep t mv sr got => fin y mv ⟨M, es, ep, t, sr, got⟩
  · obtain ⟨its, rv, pl, hz⟩ := I.tuple hs
    obtain ⟨len, vals⟩ := val rv
    refine St.call_setT (P := X.prog) (w := X.w) (fun k => ∃ L es ep t, SetAt X.prog X.w k s.heap.objs.size L es ep t ∧ Has ks L) hc (show s.heap.IsTuple l its.toArray from pl) (fun A' I' z R b hA hI hb e1 kp off W st fin => ?_) fun k tk j kp => done k tk j kp
    refine loop (St := fun i y => y.heap.IsTupleIter I' l i ∧ y.heap.IsTuple l its.toArray) W s.heap.objs.size off ks (by simp [len]) vals few s.heap rw_ (none_from _ (Nat.le_refl _)) (fun b hb => by rw [List.mem_singleton.mp hb]; exact hI) (by omega) (its.toArray.size - 0) 0 z [] #[] 0 _ rfl (Nat.zero_le _) st kp (fresh_at hb e1) ⟨fun p h => (by cases h), fun p h => (by rw [List.take_zero] at h; cases h)⟩ fun y M es ep t mv sr got => fin y mv ⟨M, es, ep, t, sr, got⟩
/-- sorted(set) -/
def rSortR (K : PySem.W.Frag) (P : Program) (w : World) : List V → Hp → VK → Prop := fun vs H Q => ∃ (a : Addr) (L : List Ad), vs = [.ref a] ∧ H a = some (SetRO P w a L) ∧ (∀ p ∈ L, SqT K H p.1 (p.2.map V.str)) ∧ ((∀ p ∈ L, p.2 ≠ []) ∨ L.length ≤ 1) ∧
  ∀ (M : List Ad) (p : Addr), M.Perm L → H p = none → Q (.ref p) (upd H p (.lst ((M.mergeSort fun x y => leR x.2 y.2).map fun p => V.ref p.1)))
theorem cr_sortR (hc : X.A.handled = none) (hu : X.A.units + 100 < cLine) : CallR X (.builtin "sorted") (rSortR X.K X.prog X.w) := by
  intro pins s σ H vs us Q I r h
  obtain ⟨a, L, rfl, ha, rows, ne, q⟩ := h
  rw [Vals.ref1 r]
  have R0 : Set0 X.prog X.w s.heap a L := (I.hok a _ ha).1
  obtain ⟨es, ep, t, R⟩ := R0.full fun p hp => inv_row I (rows p hp)
  refine sorted_rows R hc hu ne fun z p c M kp g o lo pm hp => ?_
  have nw : H p = none := I.hok.fresh lo
  have few : M.length ≤ cap := by rw [pm.length_eq]; exact R.few
  have lim : cap = 76 := rfl
  have hlen : ((M.mergeSort fun x y => leR x.2 y.2).map fun p => V.ref p.1).length ≤ sizeLine := by rw [List.length_map, List.length_mergeSort, sizeLine_eq]; omega
  have J : Inv X pins σ (upd H p (.lst ((M.mergeSort fun x y => leR x.2 y.2).map fun p => V.ref p.1))) { s with heap := z.heap, gens := z.gens, drawn := z.drawn, toks := z.toks } :=
    I.call (ch := []) (Un.laid kp lo nw) (I.hok.laid kp lo ⟨hlen, _, c, vals_refs _, hp⟩) (by rw [g]; exact I.bare) (fun _ z => nomatch z)
  have e : z = { s with heap := z.heap, gens := z.gens, drawn := z.drawn, toks := z.toks } := by
    cases z; cases s; cases o; rfl
  rw [e]
  exact ⟨.ref p, _, J, rfl, q M p pm nw⟩
end
end DL.Rs

/-! sorted(set(x)) upon data: of texts, of rows of texts -/
namespace DL.Rs
open PySem PySem.Spec L2
/-- each once -/
def dedupR : List Row → List Row
  | [] => []
  | x :: xs => if x ∈ xs then dedupR xs else x :: dedupR xs
theorem mem_dedupR {x : Row} : ∀ {xs : List Row}, x ∈ dedupR xs ↔ x ∈ xs
  | [] => Iff.rfl
  | y :: ys => by
    unfold dedupR
    split
    · rename_i h
      rw [mem_dedupR, List.mem_cons]
      exact ⟨.inr, fun z => z.elim (fun e => by rw [e]; exact h) id⟩
    · rw [List.mem_cons, List.mem_cons, mem_dedupR]
theorem nodup_dedupR : ∀ xs : List Row, (dedupR xs).Nodup
  | [] => List.nodup_nil
  | y :: ys => by
    unfold dedupR
    split
    · exact nodup_dedupR ys
    · rename_i h
      exact List.nodup_cons.mpr ⟨fun z => h (mem_dedupR.mp z), nodup_dedupR ys⟩
/-- ascending, each once -/
def srtR (xs : List Row) : List Row := (dedupR xs).mergeSort leR
theorem leR_trans (a b c : Row) (h1 : leR a b = true) (h2 : leR b c = true) : leR a c = true := decide_eq_true (List.le_trans (of_decide_eq_true h1) (of_decide_eq_true h2))
theorem leR_total (a b : Row) : (leR a b || leR b a) = true := by
  rcases List.le_total (cpsR a) (cpsR b) with h | h
  · simp [leR, h]
  · simp [leR, h]
theorem cpsR_inj : ∀ {a b : Row}, cpsR a = cpsR b → a = b
  | [], [], _ => rfl
  | [], _ :: _, h => by cases h
  | _ :: _, [], h => by cases h
  | x :: a, y :: b, h => by
    injection h with h1 h2
    rw [PySem.W.str_of_cps h1, cpsR_inj h2]
theorem leR_anti {a b : Row} (h1 : leR a b = true) (h2 : leR b a = true) : a = b := cpsR_inj (List.le_antisymm (of_decide_eq_true h1) (of_decide_eq_true h2))
theorem few_of {ks : List Ad} (h : (dedupR (ks.map (·.2))).length ≤ cap) : Few ks := by
  have gen : ∀ (l m : List Row), l.Nodup → (∀ x ∈ l, x ∈ m) → l.length ≤ m.length := by
    intro l
    induction l with
    | nil => exact fun _ _ _ => Nat.zero_le _
    | cons x l ih =>
      intro m hn hm
      obtain ⟨h1, h2⟩ := List.nodup_cons.mp hn
      have hx := hm x List.mem_cons_self
      have := ih (m.erase x) h2 fun y hy => (List.mem_erase_of_ne fun e => h1 (by rw [← e]; exact hy)).mpr (hm y (List.mem_cons_of_mem _ hy))
      rw [List.length_erase_of_mem hx] at this
      have hp : 0 < m.length := List.length_pos_of_mem hx
      rw [List.length_cons]
      omega
  exact fun M nd sub => Nat.le_trans (gen M _ nd fun r hr => mem_dedupR.mpr (sub r hr)) h
theorem has_len {ks L : List Ad} (g : Has ks L) (nd : (L.map (·.2)).Nodup) : L.length = (dedupR (ks.map (·.2))).length := by
  have p : (L.map (·.2)).Perm (dedupR (ks.map (·.2))) := (List.perm_ext_iff_of_nodup nd (nodup_dedupR _)).mpr fun r => ⟨fun h => by
    obtain ⟨p, hp, rfl⟩ := List.mem_map.mp h
    exact mem_dedupR.mpr (List.mem_map.mpr ⟨p, g.sub p hp, rfl⟩), fun h => by
    obtain ⟨p, hp, rfl⟩ := List.mem_map.mp (mem_dedupR.mp h)
    exact g.all p hp⟩
  have := p.length_eq
  rwa [List.length_map] at this
theorem srtR_one {ks L M : List Ad} (g : Has ks L) (nd : (L.map (·.2)).Nodup) (pm : M.Perm L) : (M.mergeSort fun x y => leR x.2 y.2).map (·.2) = srtR (ks.map (·.2)) := by
  have p0 : ((M.mergeSort fun x y => leR x.2 y.2).map (·.2)).Perm (L.map (·.2)) := ((List.mergeSort_perm M _).trans pm).map (·.2)
  have p1 : ((M.mergeSort fun x y => leR x.2 y.2).map (·.2)).Perm (dedupR (ks.map (·.2))) := p0.trans ((List.perm_ext_iff_of_nodup nd (nodup_dedupR _)).mpr fun r => ⟨fun h => by
    obtain ⟨p, hp, rfl⟩ := List.mem_map.mp h
    exact mem_dedupR.mpr (List.mem_map.mpr ⟨p, g.sub p hp, rfl⟩), fun h => by
    obtain ⟨p, hp, rfl⟩ := List.mem_map.mp (mem_dedupR.mp h)
    exact g.all p hp⟩)
  refine List.Perm.eq_of_pairwise (le := fun a b => leR a b = true) (fun a b _ _ h1 h2 => leR_anti h1 h2) ?_ ?_ (p1.trans (List.mergeSort_perm _ leR).symm)
  · rw [List.pairwise_map]
    exact List.pairwise_mergeSort (le := fun x y : Ad => leR x.2 y.2) (fun a b c h1 h2 => leR_trans _ _ _ h1 h2) (fun a b => leR_total _ _) M
  · exact List.pairwise_mergeSort leR_trans leR_total _
end DL.Rs
namespace DL
open PySem PySem.Spec L2
def encRow (r : List Str) : D := .tup (r.map .str)
def rowsL : List D → Option (List (List Str))
  | [] => some []
  | .tup t :: l => match strL t, rowsL l with
    | some r, some rs => some (r :: rs)
    | _, _ => none
  | _ => none
theorem rowsL_eq : ∀ {l : List D} {rs : List (List Str)}, rowsL l = some rs → l = rs.map encRow
  | [], _, h => by cases h; rfl
  | d :: l, rs, h => by
    cases d with
    | tup t =>
      simp only [rowsL] at h
      split at h
      · rename_i r rs' h1 h2
        cases h
        rw [List.map_cons, ← rowsL_eq h2]
        unfold encRow
        rw [← strL_eq h1]
      · cases h
    | _ => simp [rowsL] at h
theorem rowsL_map : ∀ rs : List (List Str), rowsL (rs.map encRow) = some rs
  | [] => rfl
  | r :: rs => by simp [rowsL, encRow, strL_map, rowsL_map rs]
theorem rowsL_of {K : PySem.W.Frag} {dk : DkT} {H : Hp} {A : Addr → Prop} : ∀ {rs : List (List Str)} {xs : List V}, RpL K dk H A xs (rs.map encRow) → ∃ ks : List Rs.Ad, xs = ks.map (fun p => V.ref p.1) ∧ ks.map (·.2) = rs ∧ (∀ p ∈ ks, SqT K H p.1 (p.2.map V.str)) ∧ ∀ p ∈ ks, Rp K dk H A (.ref p.1) (encRow p.2)
  | [], _, .nil => ⟨[], rfl, rfl, fun _ h => (by cases h), fun _ h => (by cases h)⟩
  | r :: rs, _, .cons q t => by
    obtain ⟨ks, h1, h2, h3, h4⟩ := rowsL_of t
    unfold encRow at q
    cases q with
    | @tup a us _ s r' pt =>
      obtain ⟨e, ok⟩ := strL_of r'
      refine ⟨(a, r) :: ks, by rw [h1]; rfl, by rw [List.map_cons, h2], fun p hp => ?_, fun p hp => ?_⟩
      · rcases List.mem_cons.mp hp with z | z
        · rw [z]; dsimp only; rw [← e]; exact s
        · exact h3 p z
      · rcases List.mem_cons.mp hp with z | z
        · rw [z]; exact .tup s r' pt
        · exact h4 p z
theorem rpl_ad {K : PySem.W.Frag} {dk : DkT} {H : Hp} {A : Addr → Prop} : ∀ {ks : List Rs.Ad}, (∀ p ∈ ks, Rp K dk H A (.ref p.1) (encRow p.2)) → RpL K dk H A (ks.map fun p => V.ref p.1) ((ks.map (·.2)).map encRow)
  | [], _ => .nil
  | p :: ks, h => .cons (h p List.mem_cons_self) (rpl_ad fun q hq => h q (List.mem_cons_of_mem _ hq))
/-- of rows -/
def srowsD (l : List D) : Mo D := match rowsL l with
  | some rs => need ((Rs.dedupR rs).length ≤ 76 ∧ (rs.all (fun r => !r.isEmpty) || decide ((Rs.dedupR rs).length ≤ 1)) = true) (ret (.lst ((Rs.srtR rs).map encRow)))
  | none => stop
/-- sorted(set(x)) -/
def ssetD (a : D) : Mo D := match a with
  | .lst l => match strL l with
    | some ys => need (ys.length + 1 < 4096) (ret (.lst ((St.srtS ys).map .str)))
    | none => srowsD l
  | .tup l => srowsD l
  | _ => stop
section
variable {P : Program} {w : World} {base : Heap} {k : Nat} {N : List Str} {sc : Scope} {X : Cx} {c : Cn}
def rSetAll (K : PySem.W.Frag) (P : Program) (w : World) : List V → Hp → VK → Prop := fun vs H Q => St.rSet K w vs H Q ∨ Rs.rSetR K P w vs H Q
def rSortAll (K : PySem.W.Frag) (P : Program) (w : World) : List V → Hp → VK → Prop := fun vs H Q => St.rSort w vs H Q ∨ Rs.rSortR K P w vs H Q
theorem e_sset (G : Gd P w base k N sc X c) {e : Expr} {te : DE} {me : Md} {p p2 pos pos2 : Pos} (hg : glB sc "sorted" = true) (hm : c.mg "sorted" = none) (hg2 : glB sc "set" = true) (hm2 : c.mg "set" = none) (he : PE X e (tX c me te)) (hs : starEach [e] X.env = (false, eval e X.env) :: starEach [] X.env)
    (hs2 : starEach [.Call (.Name "set" p2) [e] [] pos2] X.env = (false, eval (.Call (.Name "set" p2) [e] [] pos2) X.env) :: starEach [] X.env) :
    PE X (.Call (.Name "sorted" p) [.Call (.Name "set" p2) [e] [] pos2] [] pos) (tX c .f (un1 te ssetD)) := by
  obtain ⟨g1, g2, g3⟩ := glB_of hg
  obtain ⟨k1, k2, k3⟩ := glB_of hg2
  have hu : X.A.units + 100 < cLine := by have := G.hu; omega
  have c1 : CallR X (.type "set") (rSetAll X.K X.prog X.w) := CallR.or (St.cr_set G.room.hd) (Rs.cr_setR G.room.hd hu)
  have c2 : CallR X (.builtin "sorted") (rSortAll X.K X.prog X.w) := CallR.or (St.cr_sort G.room.hd hu) (Rs.cr_sortR G.room.hd hu)
  refine PE.imp (pe_callB c2 (G.gl g1) (by rw [G.mg]; exact hm) (by decide +kernel) (pa_cons (pe_callTy c1 (G.gl k1) (by rw [G.mg]; exact hm2) (by decide +kernel) (pa_cons he pa_nil hs) k3 k2 hs rfl) pa_nil hs2) g3 g2 hs2 rfl) fun σ H Q q => ?_
  refine op1_tX (md := .f) (r := fun x H Q => rSetAll X.K X.prog X.w [x] H fun y H1 => rSortAll X.K X.prog X.w [y] H1 Q) (f := ssetD) ?_ q
  intro own env n σ H0 H x a Q R ra g
  have wa := R.weak ra
  have rowsW : ∀ (l : List D) (b : Addr) (xs : List V), x = .ref b → (SqL c.K H b xs ∨ SqT c.K H b xs) → RpL c.K c.dk H (AV c own) xs l → Go c own env H n .f (srowsD l) Q → rSetAll X.K X.prog X.w [x] H fun y H1 => rSortAll X.K X.prog X.w [y] H1 Q := by
    intro l b xs e1 sb rl g
    unfold srowsD at g
    split at g
    · rename_i rs hrs
      obtain ⟨⟨few, ne⟩, g⟩ := g.need'
      have e2 := rowsL_eq hrs
      subst e2
      obtain ⟨ks, f1, f2, f3, f4⟩ := rowsL_of rl
      subst f1
      subst f2
      rw [G.K]
      refine .inr ⟨b, ks, by rw [e1], sb, f3, Rs.few_of few, fun p1 L fr got nd => .inr ⟨p1, L, rfl, upd_same, fun p hp => ?_, ?_, fun M p3 pm fr3 => ?_⟩⟩
      · rcases f3 p (got.sub p hp) with (h | ⟨u, h⟩) | h
        · exact .inl (.inl (by rw [upd_ne (ne_of_none h fr)]; exact h))
        · exact .inl (.inr ⟨u, by rw [upd_ne (ne_of_none h fr)]; exact h⟩)
        · exact .inr h
      · rcases Bool.or_eq_true _ _ ▸ ne with ne | ne
        · refine .inl fun p hp => ?_
          have := List.all_eq_true.mp ne p.2 (List.mem_map.mpr ⟨p, got.sub p hp, rfl⟩)
          intro z
          rw [z] at this
          simp at this
        · refine .inr ?_
          have pl := Rs.has_len got nd
          have := of_decide_eq_true ne
          omega
      · have eM := Rs.srtR_one got nd pm
        obtain ⟨Qd, q1, q2⟩ := g
        have ext1 : Ext c.dk H (upd H p1 (Rs.SetRO X.prog X.w p1 L)) := Ext.new fr
        have R2 := R.go ext1 (R.vi.new fr)
        have g' : Go c own env (upd H p1 (Rs.SetRO X.prog X.w p1 L)) n .f (ret (.lst ((Rs.srtR (ks.map (·.2))).map encRow))) Q := ⟨Qd, q1, fun d n' v H' q e vi r => q2 d n' v H' q (ext1.trans e) vi (r.back R2.vi ext1)⟩
        refine g'.newL R2 fr3 ?_
        rw [← eM]
        refine rpl_ad fun p hp => ?_
        have pin := got.sub p (pm.mem_iff.mp ((List.mergeSort_perm M _).mem_iff.mp hp))
        exact (f4 p pin).ext R.vi (fun _ z => AV.deck z) ext1
    · exact g.stop'.elim
  unfold ssetD at g
  split at g
  · rename_i l
    split at g
    · rename_i ys hy
      obtain ⟨few, g⟩ := g.need'
      obtain ⟨b, xs, e1, n1, s1, r1⟩ := wa
      have e2 := strL_eq hy
      subst e2
      obtain ⟨e3, ok⟩ := strL_of r1
      subst e3
      rw [G.K]
      refine .inl ⟨b, ys, by rw [e1], SqL.of s1, few, fun p1 L f1 got nd => .inl ⟨p1, L, rfl, upd_same, fun M p3 pm f3 => ?_⟩⟩
      have eM := St.srtS_one got nd pm
      rw [eM]
      obtain ⟨Qd, q1, q2⟩ := g
      have ext1 : Ext c.dk H (upd H p1 (St.SetO X.w p1 L)) := Ext.new f1
      have R2 := R.go ext1 (R.vi.new f1)
      have g' : Go c own env (upd H p1 (St.SetO X.w p1 L)) n .f (ret (.lst ((St.srtS ys).map .str))) Q := ⟨Qd, q1, fun d n' v H' q e vi r => q2 d n' v H' q (ext1.trans e) vi (r.back R2.vi ext1)⟩
      refine g'.newL R2 f3 ?_
      have all : ∀ zs : List Str, (∀ z ∈ zs, PyData.strOk z = true) → RpL c.K c.dk (upd H p1 (St.SetO X.w p1 L)) (AV c own) (zs.map V.str) (zs.map D.str) := by
        intro zs
        induction zs with
        | nil => intro _; exact .nil
        | cons z zs ih => intro h; exact .cons (.str (h z List.mem_cons_self)) (ih fun y hy => h y (List.mem_cons_of_mem _ hy))
      exact all _ fun z hz => ok z (St.mem_dedup.mp ((List.mergeSort_perm _ St.leS).mem_iff.mp hz))
    · obtain ⟨b, xs, e1, n1, s1, r1⟩ := wa
      exact rowsW l b xs e1 (.inl (SqL.of s1)) r1 g
  · rename_i l
    obtain ⟨b, xs, e1, s1, r1⟩ := Rw.tup' wa
    exact rowsW l b xs e1 (.inr s1) r1 g
  · exact g.stop'.elim
end
end DL

/-! part fifteen: short words of the printed proofs -/
namespace DL
open PySem PySem.Spec L2
def timesD (a b : D) : Mo D := match a, b with
  | .str _, _ => stop
  | _, _ => mulD a b
theorem mgz {c : Cn} {mg : Str → Option Value} {x : Str} (hm : c.mg = mg) (h : mg x = none) : c.mg x = none := by rw [hm]; exact h
section
variable {P : Program} {w : World} {K : PySem.W.Frag} {mg : Str → Option Value} {base : Heap} {k : Nat} {N : List Str} {sc : Scope} {X : Cx} {c : Cn}
theorem mgzX {x : Str} (G : Gd P w base k N sc X c) (hm : c.mg = mg) (h : mg x = none) : X.mg x = none := by rw [G.mg, hm]; exact h
theorem gd_of {X' : Cx} (h : X'.A = X.A) (g : X.A.guards = some []) : X'.A.guards = some [] := by rw [h]; exact g
theorem FOk.at {e : FE} (h : FOk P w K mg base k e) (hK : c.K = K) (hm : c.mg = mg) : FOk P w c.K c.mg base k e := by rw [hK, hm]; exact h
/-- product -/
theorem timesD_eq : (fun a b : D => match a, b with | .str _, _ => (stop : Mo D) | _, _ => mulD a b) = timesD := by
  funext a b
  cases a <;> rfl
theorem e_times {a b : Expr} {ta tb : DE} {ma mb : Md} {pos : Pos} (ha : PE X a (tX c ma ta)) (hb : PE X b (tX c mb tb)) : PE X (.BinOp a .Mult b pos) (tX c .s (bin2 ta tb timesD)) := by
  rw [← timesD_eq]
  exact e_mul ha hb
end
end DL

/-! part sixteen: the deck is made; the law's body behind it -/
namespace DL
open PySem PySem.Spec L2
/-- the deck is made of the script -/
def spDeck (K : PySem.W.Frag) : Sp := fun vs H Q _ => ∃ (a : Addr) (ns : List Int), vs = [.ref a] ∧ SqL K H a (ns.map V.int) ∧ ∀ (H' : Hp) (p s : Addr), s ≠ p → H' p = some (.lst [.ref s, .int 0, .int 0, .int 0]) → H' s = some (.lst ((ns.take 63).map V.int)) → Q (.ref p) H'
theorem cut63 (ns : List Int) : cutV (ns.map V.int) none (some 63) = (ns.take 63).map V.int := by
  unfold cutV
  rw [HT.sIx_none, show HT.sIx (ns.map V.int).length (ns.map V.int).length (some 63) = min 63 (ns.map V.int).length from HT.sIx_nat _ _ 63]
  simp only [List.drop_zero, Nat.sub_zero, List.length_map, ← List.map_take]
  congr 1
  by_cases h : 63 ≤ ns.length
  · rw [Nat.min_eq_left h]
  · rw [Nat.min_eq_right (by omega), List.take_length, List.take_of_length_le (by omega)]
/-- what its text leaves -/
theorem deck_end {K : PySem.W.Frag} {vs : List V} {H : Hp} {Q : VK} {E : XK} (h : spDeck K vs H Q E) : ∃ (a : Addr) (ns : List Int), vs = [.ref a] ∧ SqL K H a (ns.map V.int) ∧
    ∀ c, H c = none → ∀ l, (upd H c (.lst (cutV (ns.map V.int) none (some 63)))) l = none → ∀ p, (upd (upd H c (.lst (cutV (ns.map V.int) none (some 63)))) l (.lst (cutV (ns.map V.int) none (some 63)))) p = none →
      Q (.ref p) (upd (upd (upd H c (.lst (cutV (ns.map V.int) none (some 63)))) l (.lst (cutV (ns.map V.int) none (some 63)))) p (.lst [.ref l, .int 0, .int 0, .int 0])) := by
  obtain ⟨a, ns, e, hs, q⟩ := h
  refine ⟨a, ns, e, hs, fun c hc l hl p hp => q _ p l (fun z => ?_) upd_same ?_⟩
  · rw [z, upd_same] at hp; cases hp
  · rw [upd_ne (fun z => by rw [← z, upd_same] at hp; cases hp), upd_same, cut63]
/-- the law's body: the deck is made, then the rest goes on with it -/
theorem law_body {P : Program} {w : World} {base : Heap} {k : Nat} {N : List Str} {sc : Scope} {K : PySem.W.Frag} {mg : Str → Option Value} {X : Cx} {rest : List Stmt} {t : DS} {i : Nat} {f : Addr} {fd : FuncData} {a : Addr} {ns : List Int} {H : Hp} {p0 p1 p2 p3 p4 : Pos}
    (T : Top P w base k N sc K mg X) (F : FnOk P w K mg base CX0 k f fd ["_law_script"] (spDeck K)) (hx : mg "_law_deck" = some (.ref f)) (hk : PySem.W.keepIn K (.ref f) = true) (hb : Binds K fd ["_law_script"] [])
    (hN0 : nameOk N sc 0 "_law_script" = true) (hNi : slotOk N sc i "_law_deck_here" = true) (hi0 : i ≠ 0) (hiN : i < N.length) (hgl : glB sc "_law_deck" = true)
    (hrest : ∀ c : Cn, c.K = K → c.mg = mg → Gd P w base k N sc X c → PSs X rest (tS c t)) (hs : SqL K H a (ns.map V.int))
    (math : t ((List.replicate N.length EV.no).set i (.val .deck)) { nx := fun _ _ => False, rt := fun d _ => d = .bl true } (fun _ _ _ => False) most) :
    ∃ t', PSs X (.Assign [.Name "_law_deck_here" p0] (.Call (.Name "_law_deck" p1) [.Name "_law_script" p2] [] p3) p4 :: rest) t' ∧ t' { nx := fun _ _ => False, rt := fun v _ => v = .bl true } (L2.start N [.ref a]) H := by
  have c0 : Cn := { K := K, mg := mg, dk := none, H0 := H, O := fun _ => False, W := fun _ _ _ _ => False, Xq := fun _ _ _ => False, gh := [], hid := [] }
  have eK := T.K
  have em := T.mg
  have eP := T.prog
  have ew := T.w
  have eb := T.base
  subst eK em eP ew eb
  obtain ⟨g1, g2, g3⟩ := glB_of hgl
  have hgl' : Gl X "_law_deck" := by unfold Gl Env.kindOf; rw [T.sc]; exact g1
  simp only [nameOk, Bool.and_eq_true, decide_eq_true_eq, Bool.not_eq_true'] at hN0
  obtain ⟨⟨⟨n1, n2⟩, n3⟩, n4⟩ := hN0
  simp only [slotOk, Bool.and_eq_true, decide_eq_true_eq] at hNi
  have first : PS X (.Assign [.Name "_law_deck_here" p0] (.Call (.Name "_law_deck" p1) [.Name "_law_script" p2] [] p3) p4) (tAsg (tCall (spDeck X.K) [] E0 (tCons (tVar 0) tNil)) (gName i)) :=
    ps_set (by rw [T.N]; exact T.nd) (by rw [T.N]; exact hNi.1) (by rw [T.sc]; exact loc_of hNi.2) (pe_call F T.room hgl' hx hk hb .nil pass0 (pa_cons (pe_var (by rw [T.N]; exact n1) (by rw [T.sc]; exact vis_of n2) n3 n4) pa_nil) g2) rfl (.inl (T.fn.all _))
  have hR : PSs X rest (fun D σ H => ∃ c : Cn, c.K = X.K ∧ c.mg = X.mg ∧ c.W = (fun _ _ _ _ => False) ∧ c.Xq = (fun _ _ _ => False) ∧ tS c t D σ H) := ⟨fun pins s σ H D I q => by
    obtain ⟨c, e1, e2, e3, e4, q⟩ := q
    exact (hrest c e1 e2 (T.gd e1 e2 e3 e4)).run pins s σ H D I q⟩
  refine ⟨_, pss_cons first hR, ?_⟩
  have hl : 0 < N.length := by omega
  refine ⟨.ref a, by simp [L2.start], a, ns, rfl, hs, fun H' p s nps hp hsr => ?_⟩
  let c : Cn := { K := X.K, mg := X.mg, dk := some (p, s), H0 := H', O := fun _ => False, W := fun _ _ _ _ => False, Xq := fun _ _ _ => False, gh := [], hid := [] }
  have vi : VI c.K c.dk most H' := fun p' s' e => by
    cases e
    exact ⟨ns.take 63, 0, 0, 0, hp, nps, hsr, by simp [List.length_take]; omega, by decide, by decide, by decide, by simp⟩
  refine ⟨c, rfl, rfl, rfl, rfl, fun _ => none, _, most, ?_, { nx := fun _ _ => False, rt := fun d _ => d = .bl true }, ⟨fun _ _ _ _ _ q _ => q.elim, fun _ _ _ _ _ q _ => q.elim, fun _ _ _ _ _ q _ => q.elim, fun d n v H2 q _ _ r => ?_⟩, math⟩
  · have len : (L2.start N [V.ref a]).length = N.length := by simp [L2.start]; omega
    refine ⟨vi, Ext.refl, ⟨most, vi⟩, fun _ z => z.elim, fun j d e => ?_, fun j d e => ?_, fun _ _ e => (by cases e), fun _ _ _ e => (by cases e), by simp [len], fun _ e => (by cases e), fun _ e => (by cases e)⟩
    · rcases get_set e with ⟨rfl, hl2, e⟩ | ⟨ne, e⟩
      · cases e
        exact ⟨.ref p, by rw [List.getElem?_set_self (by rw [len]; exact hiN)], .deck rfl⟩
      · rw [List.getElem?_replicate] at e
        split at e <;> cases e
    · rcases get_set e with ⟨_, _, e⟩ | ⟨ne, e⟩
      · cases e
      · rw [List.getElem?_replicate] at e
        split at e <;> cases e
  · subst q
    cases r
    rfl
end DL

/-! part seventeen a: dict(a tuple of pairs) -/
namespace DL
open PySem PySem.Spec L2 PyProof.Rows
section
variable {X : Cx}
theorem plain_tup {pins : List (Addr × Obj)} {σ : L2.St} {H : Hp} {s : Shared} {a : Addr} {items : Array Value} (I : L2.Inv X pins σ H s) (h : PlT X.K H a) (p : IsTup s.heap a items) : PlainSeq "tuple" s.heap a items := by
  obtain ⟨o, ho, hc, n, hd⟩ := p
  have dn : o.dict = none := by
    rcases h with ⟨o', xs, h, d⟩ | ⟨o', h, d⟩
    · have := (show ObjOk X.prog X.w H s.heap a (.frz o' (.tup xs)) from I.hok a _ h).1
      rw [ho] at this
      rw [Option.some.inj this]; exact d
    · have := I.kIn a o' h
      rw [ho] at this
      rw [Option.some.inj this]; exact d
  exact ⟨o, n, ho, hc, dn, hd⟩
def rDictT (K : PySem.W.Frag) : List V → Hp → VK → Prop := fun xs H Q => ∃ (a : Addr) (ps : List Addr) (kvs : List (Key × V)), xs = [.ref a] ∧ SqT K H a (ps.map V.ref) ∧ PlT K H a ∧ Paired (fun p kv => SqT K H p [kV kv.1, kv.2]) ps kvs ∧
    ∀ p, H p = none → Q (.ref p) (upd H p (.dK (mergeK [] kvs)))
theorem call_dictT (hcalm : X.calm = true) : CallR X (.type "dict") (rDictT X.K) := by
  intro pins s σ H xs us Q I r q
  obtain ⟨a, ps, kvs, ex, hq, pl, hp, q⟩ := q
  subst ex
  obtain ⟨u, eu, rx⟩ := vals1 r
  subst eu
  cases rx
  obtain ⟨its, rv, it, hz⟩ := I.tuple hq
  have ei := refs_at rv
  subst ei
  rw [List.length_map] at hz
  have pls := plain_tup I pl it
  obtain ⟨prs, rel, hl, hpr⟩ := pairs_of I hp
  obtain ⟨f, hf⟩ : ∃ f : Nat → Addr × Value, ∀ j, ∀ q, prs[j]? = some q → ps[j]? = some (f j).1 ∧ IsTup s.heap (f j).1 #[(f j).2, q.2] ∧ keyIs q.1 (f j).2 = true := by
    refine (Classical.skolem (p := fun (j : Nat) (y : Addr × Value) => ∀ q : Key × Value, prs[j]? = some q → ps[j]? = some y.1 ∧ IsTup s.heap y.1 #[y.2, q.2] ∧ keyIs q.1 y.2 = true)).mp fun j => ?_
    cases e : prs[j]? with
    | none => exact ⟨(0, .none), fun q h => (by cases h)⟩
    | some q =>
      obtain ⟨b, u, e1, e2, e3⟩ := hpr j q e
      exact ⟨(b, u), fun q' h => by cases h; exact ⟨e1, e2, e3⟩⟩
  have P := PairArg.tuple (prog := X.prog) (w := X.w) a (ps.map Value.ref).toArray (fun j => (f j).1) ((List.range prs.length).map fun j => ((f j).2, ((prs[j]?).map (·.2)).getD .none))
  have at_ : ∀ j k v, ((List.range prs.length).map fun j => ((f j).2, ((prs[j]?).map (·.2)).getD .none))[j]? = some (k, v) → ∃ q, prs[j]? = some q ∧ k = (f j).2 ∧ v = q.2 := by
    intro j k v h
    rw [List.getElem?_map] at h
    by_cases hj : j < prs.length
    · rw [List.getElem?_range hj, Option.map_some, List.getElem?_eq_getElem hj] at h
      rw [List.getElem?_eq_getElem hj]
      simp only [Option.map_some, Option.getD_some, Option.some.injEq, Prod.mk.injEq] at h
      exact ⟨_, rfl, h.1.symm, h.2.symm⟩
    · rw [List.getElem?_eq_none (by simp; omega)] at h
      cases h
  refine PySem.call_dict_pairs (knd := mixKind X.prog X.w) (kvs := prs) P (I.ok.hd hcalm) ⟨pls, ⟨by simp [hl], fun j k v h => ?_⟩⟩ ⟨by simp, fun i key v h => ?_⟩ (by simp [hl]; exact hz) fun h' tk hd' hk => ?_
  · obtain ⟨q, e, rfl, rfl⟩ := at_ j k v h
    obtain ⟨e1, e2, e3⟩ := hf j q e
    exact ⟨by simp [e1], .inl e2⟩
  · obtain ⟨q, e, rfl, rfl⟩ := at_ i key v h
    exact ⟨q.1, e, (hf i q e).2.2⟩
  · have hm : (s.heap.objs.size == sysModules) = false := beq_eq_false_iff_ne.mpr (Nat.ne_of_gt I.big)
    have hlen : (mergeK [] kvs).length ≤ sizeLine := by
      refine Nat.le_trans (length_mergeK kvs []) ?_
      rw [List.length_nil, Nat.zero_add, rel.length, hl]
      exact hz
    exact ⟨.ref s.heap.objs.size, upd H s.heap.objs.size (.dK (mergeK [] kvs)), I.laid (t' := tk) (fun b o e => hk b o (by simp) e) (Nat.le_refl _) (show ObjOk X.prog X.w _ _ _ (.dK (mergeK [] kvs)) from ⟨hlen, hm, merged [] prs, KV.merge rel .nil, hd'⟩), rfl, q _ (I.hok.fresh (Nat.le_refl _))⟩
end
end DL

/-! part seventeen: isinstance, isupper, dict(..), str(..) -/
namespace DL
open PySem PySem.Spec L2
theorem char_lt (c : Char) : c.toNat < 0x110000 := by
  have := c.valid
  unfold UInt32.isValidChar Nat.isValidChar at this
  show c.val.toNat < _
  omega
theorem ok_of (s : String) : PyData.strOk (Str.ofString s) = true := by
  rw [strOk_iff, Str.ofString_eq_toList]
  intro c hc
  simp only [List.mem_map] at hc
  obtain ⟨x, _, rfl⟩ := hc
  exact char_lt x
/-! ### isinstance, a built-in class -/
def tyD : D → Option String
  | .non => some "NoneType"
  | .bl _ => some "bool"
  | .int _ => some "int"
  | .str _ => some "str"
  | .tup _ => some "tuple"
  | .lst _ => some "list"
  | .dct _ _ => some "dict"
  | _ => none
def isiD (n : String) (a : D) : Mo D := match tyD a with
  | some t => match kitB t n with
    | some b => ret (.bl b)
    | none => stop
  | none => stop
theorem tyx_of {K : PySem.W.Frag} {dk : DkT} {H : Hp} {A : Addr → Prop} {x : V} {d : D} {t : String} (r : Rw K dk H A x d) (h : tyD d = some t) : TyX K H x (.type t) := by
  cases d with
  | non => cases h; cases (show Rp K dk H A x .non from r); exact .base .non
  | bl b => cases h; cases (show Rp K dk H A x (.bl b) from r); exact .base (.bl _)
  | int i => cases h; cases (show Rp K dk H A x (.int i) from r); exact .base (.int _)
  | str s => cases h; cases (show Rp K dk H A x (.str s) from r); exact .base (.str _)
  | tup l =>
    cases h
    obtain ⟨a, xs, e, s, _⟩ := Rw.tup' r
    subst e
    rcases s with (s | ⟨o, s⟩) | s
    · exact .base (.tup s)
    · exact .fTuple s
    · obtain ⟨its, rv, o, ho, hc, q⟩ := s
      exact .kTuple ho hc
  | lst l =>
    cases h
    obtain ⟨p, xs, e, _, s, _⟩ := r
    subst e
    exact .base (.lst s)
  | dct ks l =>
    cases h
    obtain ⟨p, kvs, e, _, s, _⟩ := r
    subst e
    rcases s with s | ⟨o, s⟩
    · exact .base (.dK s)
    · exact .fDict s
  | deck => cases h
  | obj _ => cases h
section
variable {P : Program} {w : World} {base : Heap} {k : Nat} {N : List Str} {sc : Scope} {X : Cx} {c : Cn} {pos : Pos} {e : Expr} {te : DE} {me : Md}
theorem e_isi (G : Gd P w base k N sc X c) {n : String} {x : Str} {p p2 : Pos} (hg : glB sc "isinstance" = true) (hm : c.mg "isinstance" = none) (hg2 : glB sc x = true) (hm2 : c.mg x = none) (hv2 : bootBuiltins x = some (.type n)) (he : PE X e (tX c me te))
    (hs : starEach [e, .Name x p2] X.env = (false, eval e X.env) :: starEach [.Name x p2] X.env) (hs2 : starEach [.Name x p2] X.env = (false, eval (.Name x p2) X.env) :: starEach [] X.env) :
    PE X (.Call (.Name "isinstance" p) [e, .Name x p2] [] pos) (tX c .s (un1 te (isiD n))) := by
  obtain ⟨g1, g2, g3⟩ := glB_of hg
  obtain ⟨k1, k2, k3⟩ := glB_of hg2
  refine PE.imp (pe_callB call_isi (G.gl g1) (by rw [G.mg]; exact hm) (by decide +kernel) (pa_cons he (pa_cons (pe_bltn (v := .ty n) (G.gl k1) (by rw [G.mg]; exact hm2) hv2 rfl k3 k2) pa_nil hs2) hs) g3 g2 (by rw [hs, hs2]) rfl) fun σ H Q q => ?_
  refine op1_tX (md := .s) (r := fun y H Q => rIsi X.K [y, .ty n] H Q) ?_ q
  intro own env n2 σ H0 H x a Q R ra g
  have wa := R.weak ra
  unfold isiD at g
  split at g
  · rename_i t ht
    split at g
    · rename_i b hb
      rw [G.K]
      exact ⟨x, .ty n, .type t, .type n, b, rfl, .ty n, tyx_of wa ht, kit_ty hb, g.done R (Rp.bl b)⟩
    · exact g.stop'.elim
  · exact g.stop'.elim
/-! ### isupper -/
def upperD : D → Mo D
  | .str s => ret (.bl (Txt.isupper s))
  | _ => stop
theorem e_isupper (G : Gd P w base k N sc X c) {apos : Pos} (he : PE X e (tX c me te)) (hbase : attributeBase e "isupper" X.env (eval e X.env) = eval e X.env) (hline : (apos.endLine == pos.line) = true) : PE X (.Call (.Attribute e "isupper" apos) [] [] pos) (tX c .s (un1 te upperD)) := by
  refine PE.imp (pe_m0 PySem.F.slot_str_isupper PySem.F.type_str_isupper mt_isupper he hbase hline) fun σ H Q q => ?_
  refine op1_tX (md := .s) (r := fun y H Q => (∃ a, y = V.str a) ∧ ∃ a, y = .str a ∧ [] = ([] : List V) ∧ True ∧ Q (.bl (Txt.isupper a)) H) ?_ q
  intro own env n2 σ H0 H x a Q R ra g
  have wa := R.weak ra
  cases a with
  | str s =>
    cases (show Rp c.K c.dk H (AV c own) x (.str s) from wa)
    exact ⟨⟨s, rfl⟩, s, rfl, rfl, trivial, g.done R (Rp.bl _)⟩
  | _ => exact g.stop'.elim
/-! ### str of an int -/
theorem o_str' {ma : Md} : OpC c ma .s (fun xs H Q => ∃ i, xs = [.int i] ∧ i.natAbs.log2 < 1920 ∧ Q (.str (toString i)) H) strD := by
  intro own env n2 σ H0 H x a Q R ra g
  have wa := R.weak ra
  unfold strD at g
  split at g
  · rename_i i
    obtain ⟨⟨h1, h2⟩, g⟩ := g.need'
    rw [wa.int']
    refine ⟨i, rfl, ?_, g.done R (Rp.str (ok_of _))⟩
    by_cases hz : i.natAbs = 0
    · rw [hz]; decide
    · exact Nat.lt_trans ((Nat.log2_lt hz (k := 40)).mpr (by omega)) (by decide)
  · exact g.stop'.elim
theorem c_str (G : Gd P w base k N sc X c) : CalX X c (.type "str") .s strD := ⟨_, call_str_int, fun _ => o_str'⟩
/-! ### dict(d), dict(ps) -/
def pairD : D → Option (Key × D)
  | .tup [a, b] => (keyD a).map fun k => (k, b)
  | _ => none
def pairsD : List D → Option (List (Key × D))
  | [] => some []
  | d :: l => match pairD d, pairsD l with
    | some p, some ps => some (p :: ps)
    | _, _ => none
/-- one after the other, later ones win -/
def mergeD (ps : List (Key × D)) : List Key × List D := ps.foldl (fun acc p => putL acc.1 acc.2 p.1 p.2) ([], [])
def dictD : D → Mo D
  | .dct ks ds => ret (.dct ks ds)
  | .lst l => match pairsD l with
    | some ps => ret (.dct (mergeD ps).1 (mergeD ps).2)
    | none => stop
  | .tup l => match pairsD l with
    | some ps => ret (.dct (mergeD ps).1 (mergeD ps).2)
    | none => stop
  | _ => stop
theorem pairsD_tups : ∀ {l : List D} {ps : List (Key × D)}, pairsD l = some ps → tupsB l = true
  | [], _, _ => rfl
  | d :: l, ps, h => by
    simp only [pairsD] at h
    split at h
    · rename_i p ps' h1 h2
      have t := pairsD_tups h2
      unfold pairD at h1
      split at h1
      · unfold tupsB at t ⊢
        rw [List.all_cons, t]; rfl
      · cases h1
    · cases h
def rDictAll (K : PySem.W.Frag) : List V → Hp → VK → Prop := fun xs H Q => (∃ (a : Addr) (kvs : List (Key × V)), xs = [.ref a] ∧ Rd H a (.dK kvs) ∧ ∀ p, H p = none → Q (.ref p) (upd H p (.dK kvs))) ∨
  ∃ (a : Addr) (ps : List Addr) (kvs : List (Key × V)), xs = [.ref a] ∧ SqL K H a (ps.map V.ref) ∧ Paired (fun p kv => SqT K H p [kV kv.1, kv.2]) ps kvs ∧ ∀ p, H p = none → Q (.ref p) (upd H p (.dK (mergeK [] kvs)))
theorem key_of {K : PySem.W.Frag} {dk : DkT} {H : Hp} {A : Addr → Prop} {v : V} {d : D} {k : Key} (h : keyD d = some k) (r : Rp K dk H A v d) : v = kV k := by
  cases d with
  | int i => cases h; cases r; rfl
  | str s => cases h; cases r; rfl
  | _ => simp [keyD] at h
theorem pairs_rp {K : PySem.W.Frag} {dk : DkT} {H : Hp} {A : Addr → Prop} : ∀ {l : List D} {ps : List (Key × D)} {xs : List V}, pairsD l = some ps → RpL K dk H A xs l →
    ∃ (as : List Addr) (kvs : List (Key × V)), xs = as.map V.ref ∧ Paired (fun p kv => SqT K H p [kV kv.1, kv.2]) as kvs ∧ kvs.map (·.1) = ps.map (·.1) ∧ RpL K dk H A (kvs.map (·.2)) (ps.map (·.2))
  | [], _, _, h, .nil => by cases h; exact ⟨[], [], rfl, .nil, rfl, .nil⟩
  | d :: l, ps, _, h, .cons r t => by
    simp only [pairsD] at h
    split at h
    · rename_i p ps' h1 h2
      cases h
      obtain ⟨as, kvs, f1, f2, f3, f4⟩ := pairs_rp h2 t
      unfold pairD at h1
      split at h1
      · rename_i a b
        cases hk : keyD a with
        | none => rw [hk] at h1; cases h1
        | some k =>
          rw [hk] at h1
          cases h1
          cases r with
          | @tup q us _ s r' _ =>
            cases r' with
            | cons ra r2 =>
              cases r2 with
              | cons rb r3 =>
                cases r3
                rw [key_of hk ra] at s
                exact ⟨q :: as, (k, _) :: kvs, by rw [f1]; rfl, .cons s f2, by simp [f3], .cons rb f4⟩
      · cases h1
    · cases h
theorem merge_rel {K : PySem.W.Frag} {dk : DkT} {H : Hp} {A : Addr → Prop} : ∀ {ps : List (Key × D)} {kvs acc : List (Key × V)} {da : List Key × List D}, kvs.map (·.1) = ps.map (·.1) → RpL K dk H A (kvs.map (·.2)) (ps.map (·.2)) → acc.map (·.1) = da.1 → RpL K dk H A (acc.map (·.2)) da.2 →
    (mergeK acc kvs).map (·.1) = (ps.foldl (fun acc p => putL acc.1 acc.2 p.1 p.2) da).1 ∧ RpL K dk H A ((mergeK acc kvs).map (·.2)) (ps.foldl (fun acc p => putL acc.1 acc.2 p.1 p.2) da).2
  | [], kvs, acc, da, h1, _, h3, h4 => by
    cases kvs with
    | nil => exact ⟨h3, h4⟩
    | cons _ _ => cases h1
  | p :: ps, kvs, acc, da, h1, h2, h3, h4 => by
    cases kvs with
    | nil => cases h1
    | cons kv kvs =>
      rw [List.map_cons, List.map_cons] at h1
      injection h1 with e1 e2
      cases h2 with
      | cons r t =>
        obtain ⟨m1, m2⟩ := putL_rel (k := kv.1) h4 r
        rw [h3, e1] at m1 m2
        exact merge_rel (ps := ps) (kvs := kvs) (acc := putK acc kv.1 kv.2) (da := putL da.1 da.2 p.1 p.2) e2 t (by rw [e1]; exact m1) (by rw [e1]; exact m2)
def rDictA3 (K : PySem.W.Frag) : List V → Hp → VK → Prop := fun xs H Q => rDictAll K xs H Q ∨ rDictT K xs H Q
theorem c_dict (G : Gd P w base k N sc X c) : CalX X c (.type "dict") .f dictD := by
  refine ⟨_, (CallR.or (CallR.or call_dictD (call_dictP G.calm) : CallR X (.type "dict") (rDictAll X.K)) (call_dictT G.calm) : CallR X (.type "dict") (rDictA3 X.K)), fun ma => ?_⟩
  intro own env n2 σ H0 H x a Q R ra g
  have wa := R.weak ra
  unfold dictD at g
  split at g
  · obtain ⟨p, kvs, e, nd, s, h1, h2⟩ := wa
    subst e
    exact .inl (.inl ⟨p, kvs, rfl, s, fun q hq => g.newD R hq h1 h2⟩)
  · split at g
    · rename_i l ps hps
      obtain ⟨p, xs, e, nd, s, r⟩ := wa
      subst e
      obtain ⟨as, kvs, f1, f2, f3, f4⟩ := pairs_rp hps r
      subst f1
      rw [G.K]
      refine .inl (.inr ⟨p, as, kvs, rfl, SqL.of s, f2, fun q hq => ?_⟩)
      obtain ⟨m1, m2⟩ := merge_rel (acc := []) (da := ([], [])) f3 f4 rfl .nil
      exact g.newD R hq m1 m2
    · exact g.stop'.elim
  · split at g
    · rename_i l ps hps
      obtain ⟨p, xs, e, s, r, pt⟩ := Rw.tupP wa
      subst e
      obtain ⟨as, kvs, f1, f2, f3, f4⟩ := pairs_rp hps r
      subst f1
      rw [G.K]
      refine .inr ⟨p, as, kvs, rfl, s, pt (pairsD_tups hps), f2, fun q hq => ?_⟩
      obtain ⟨m1, m2⟩ := merge_rel (acc := []) (da := ([], [])) f3 f4 rfl .nil
      exact g.newD R hq m1 m2
    · exact g.stop'.elim
  · exact g.stop'.elim
end
end DL

/-! part eighteen: a, b = e1, e2 -/
namespace DL
open PySem PySem.Spec L2
def evO (o : Bool) (d : D) : EV := if o = true then .own d else .val d
def mdO (o : Bool) : Md := if o = true then .f else .s
section
variable {c : Cn} {own : Nat → Option Addr} {env : Env'} {n n' : Nat} {σ : St} {H H' : Hp} {gh : List (V × D)} {hid : List Addr} {v : V} {d : D} {p : Addr} {i : Nat} {o : Bool}
theorem AV.wg {a : Addr} (h : AV c own a) : AV (c.wg gh hid) own a := by
  rcases h with h | h | h | h
  · exact .inl h
  · exact .inr (.inl h)
  · exact .inr (.inr (.inl h))
  · exact .inr (.inr (.inr (List.mem_append_right _ h)))
theorem ER.ofW (R : ER (c.wg gh hid) own env n σ H) : ER c own env n σ H where
  vi := R.vi
  ext := R.ext
  vi0 := R.vi0
  lo := R.lo
  val := fun i d h => by
    obtain ⟨v, h1, h2⟩ := R.val i d h
    exact ⟨v, h1, h2.less fun _ z => z.wg⟩
  ow := fun i d h => by
    obtain ⟨p, h1, h2, h3⟩ := R.ow i d h
    exact ⟨p, h1, h2, h3.less fun _ z => z.wg⟩
  onl := R.onl
  inj := R.inj
  len := R.len
  gh := fun q h => (R.gh q (List.mem_append_right _ h)).less fun _ z => z.wg
  hid := fun a h => R.hid a (List.mem_append_right _ h)
theorem Gd.wh {P : Program} {w : World} {base : Heap} {k : Nat} {N : List Str} {sc : Scope} {X : Cx} (G : Gd P w base k N sc X c) : Gd P w base k N sc X (c.wg gh hid) :=
  ⟨G.nd, G.prog, G.w, G.base, G.N, G.sc, G.K, G.mg, G.calm, G.room, G.takes, fun own env n σ H xd cls od R x q => by
    obtain ⟨C, x1, x2, x3⟩ := x
    refine G.link own env n σ H xd cls od R.ofW ⟨C, x1, x2, ?_⟩ q
    rcases x3 with x3 | ⟨d, fs, y1, y2, y3, y4⟩
    · exact .inl x3
    · exact .inr ⟨d, fs, y1, y2, y3, y4.less fun _ z => z.wg⟩, G.xlf⟩
/-- a value that waits to be stored -/
structure Pn (c : Cn) (own : Nat → Option Addr) (H : Hp) (o : Bool) (v : V) (d : D) : Prop where
  f : o = false → Rp c.K c.dk H (AV c own) v d
  t : o = true → ∃ p, v = .ref p ∧ Ow c.K c.dk H (AV c own) p d
theorem Ow.more' {K : PySem.W.Frag} {dk : DkT} {A : Addr → Prop} {q : Addr} {b : D} (h : Ow K dk H A q b) (hp : H p = none) : Ow K dk H (fun a => A a ∨ a = p) q b := by
  cases b with
  | lst l => obtain ⟨xs, g1, g2⟩ := h; exact ⟨xs, g1, g2.more hp⟩
  | dct ks l => obtain ⟨kvs, g1, g2, g3⟩ := h; exact ⟨kvs, g1, g2, g3.more hp⟩
  | _ => exact h.elim
theorem av_one {a : Addr} (h : AV (c.wg [] [p]) own a) : AV c own a ∨ a = p := by
  rcases h with h | h | h | h
  · exact .inl (.inl h)
  · exact .inl (.inr (.inl h))
  · exact .inl (.inr (.inr (.inl h)))
  · rcases List.mem_append.mp h with h | h
    · exact .inr (List.mem_singleton.mp h)
    · exact .inl (.inr (.inr (.inr h)))
theorem av_none {a : Addr} {gh : List (V × D)} (h : AV (c.wg gh []) own a) : AV c own a := by
  rcases h with h | h | h | h
  · exact .inl h
  · exact .inr (.inl h)
  · exact .inr (.inr (.inl h))
  · exact .inr (.inr (.inr h))
/-- hidden from now on -/
theorem ER.hide (R : ER c own env n σ H) (hp : H p = none) (e : Ext c.dk H H') (vi : VI c.K c.dk n' H') (nd : ¬ IsDk c.dk p) (pH : H' p ≠ none) : ER (c.wg [] [p]) own env n' σ H' := by
  have R' := R.go e vi
  have md : ∀ {w : V} {b : D}, Rp c.K c.dk H (AV c own) w b → Rp c.K c.dk H' (AV (c.wg [] [p]) own) w b := fun h =>
    ((h.more hp).ext R.vi (fun _ z => .inl (AV.deck z)) e).less fun _ z => av_one z
  have nH0 : c.H0 p = none := by
    cases q : c.H0 p with
    | none => rfl
    | some o =>
      rcases R.ext p o q with z | z
      · exact absurd z nd
      · rw [hp] at z; cases z
  refine ⟨vi, R'.ext, R.vi0, R.lo, fun j b h => ?_, fun j b h => ?_, R'.onl, R.inj, R.len, fun q h => ?_, fun a h => ?_⟩
  · obtain ⟨w, h1, h2⟩ := R.val j b h
    exact ⟨w, h1, md h2⟩
  · obtain ⟨q, h1, h2, h3⟩ := R.ow j b h
    exact ⟨q, h1, h2, ((h3.more' hp).ext R.vi (fun _ z => .inl (AV.deck z)) e (R.onl j q h1).2.2.1).less fun _ z => av_one z⟩
  · exact md (R.gh q h)
  · rcases List.mem_append.mp h with h | h
    · rw [List.mem_singleton.mp h]
      exact ⟨nH0, nd, pH, fun j z => (R.onl j p z).2.2.2 hp⟩
    · exact R'.hid a h
/-- one more value waits -/
theorem stage (R : ER c own env n σ H) (e : Ext c.dk H H') (vi : VI c.K c.dk n' H') (r : Rm c (AV c own) H H' (mdO o) v d) : ∃ gh hid, ER (c.wg gh hid) own env n' σ H' ∧ Pn (c.wg gh hid) own H' o v d ∧
    ((o = false ∧ gh = [(v, d)] ∧ hid = []) ∨ (o = true ∧ gh = [] ∧ ∃ p, v = .ref p ∧ hid = [p] ∧ p ∉ c.hid)) ∧ ∀ o2 w b, (∀ p, w = .ref p → o2 = true → ¬ IsDk c.dk p) → Pn c own H o2 w b → Pn (c.wg gh hid) own H' o2 w b := by
  cases o with
  | false =>
    have r : Rp c.K c.dk H' (AV c own) v d := r
    have R' := (R.go e vi).toG (gh := [(v, d)]) fun p hp => by rw [List.mem_singleton.mp hp]; exact r
    refine ⟨[(v, d)], [], R', ⟨fun _ => r.less fun _ z => av_none z, fun z => (by cases z)⟩, .inl ⟨rfl, rfl, rfl⟩, fun o2 w b nd q => ⟨fun z => (Rp.ext R.vi (fun _ z => AV.deck z) e (q.f z)).less fun _ z => av_none z, fun z => ?_⟩⟩
    obtain ⟨p, h1, h2⟩ := q.t z
    exact ⟨p, h1, (h2.ext R.vi (fun _ z => AV.deck z) e (nd p h1 z)).less fun _ z => av_none z⟩
  | true =>
    obtain ⟨p, e1, e2, e3, e4, e5⟩ := r
    obtain ⟨u, hu, _⟩ := e5.some_
    have R' := R.hide e2 e vi e3 (by rw [hu]; simp)
    refine ⟨[], [p], R', ⟨fun z => (by cases z), fun _ => ⟨p, e1, e5.less fun _ z => av_one z⟩⟩, .inr ⟨rfl, rfl, p, e1, rfl, fun z => (R.hid p z).2.2.1 e2⟩, fun o2 w b nd q => ⟨fun z => ?_, fun z => ?_⟩⟩
    · exact (((q.f z).more e2).ext R.vi (fun _ z => .inl (AV.deck z)) e).less fun _ z => av_one z
    · obtain ⟨p2, h1, h2⟩ := q.t z
      exact ⟨p2, h1, ((h2.more' e2).ext R.vi (fun _ z => .inl (AV.deck z)) e (nd p2 h1 z)).less fun _ z => av_one z⟩
/-- the last one is stored -/
theorem store (R : ER (c.wg gh hid) own env n σ H) (P : Pn (c.wg gh hid) own H o v d) (form : (o = false ∧ gh = [(v, d)] ∧ hid = []) ∨ (o = true ∧ gh = [] ∧ ∃ p, v = .ref p ∧ hid = [p] ∧ p ∉ c.hid)) (hi : i < env.length) :
    ∃ own', ER c own' (env.set i (evO o d)) n (σ.set i (some v)) H ∧ ∀ o2 w b, Pn (c.wg gh hid) own H o2 w b → Pn c own' H o2 w b := by
  rcases form with ⟨rfl, rfl, rfl⟩ | ⟨rfl, rfl, p, rfl, rfl, np⟩
  · have r := (P.f rfl).less (B := AV c own) fun _ z => z.wg
    refine ⟨drop1 own i, R.ofG.setV r, fun o2 w b q => ⟨fun z => (q.f z).less fun _ z => z.drop.wg, fun z => ?_⟩⟩
    obtain ⟨p, h1, h2⟩ := q.t z
    exact ⟨p, h1, h2.less fun _ z => z.drop.wg⟩
  · obtain ⟨p', e1, ow⟩ := P.t rfl
    cases e1
    have av : ∀ {a : Addr}, AV c (own1 own i p) a → AV (c.wg [] [p]) own a := fun {a} h => by
      rcases h.own1 with h | h
      · exact h.wg
      · rw [h]; exact .inr (.inr (.inr List.mem_cons_self))
    obtain ⟨h1, h2, h3, h4⟩ := R.hid p List.mem_cons_self
    refine ⟨own1 own i p, ⟨R.vi, R.ext, R.vi0, R.lo, fun j b q => ?_, fun j b q => ?_, fun j q h => ?_, fun j k q a b => ?_, by simp [R.len], fun q h => (R.gh q h).less fun _ z => av z, fun a h => ?_⟩, fun o2 w b q => ⟨fun z => (q.f z).less fun _ z => av z, fun z => ?_⟩⟩
    · rcases get_set q with ⟨rfl, hl, e⟩ | ⟨ne, q⟩
      · cases e
      · obtain ⟨w, q1, q2⟩ := R.val j b q
        exact ⟨w, set_get q1 ne, q2.less fun _ z => av z⟩
    · rcases get_set q with ⟨rfl, hl, e⟩ | ⟨ne, q⟩
      · cases e
        exact ⟨p, by unfold own1; rw [if_pos rfl], by rw [List.getElem?_set_self (by rw [R.len]; exact hl)], ow.less fun _ z => av z⟩
      · obtain ⟨p2, q1, q2, q3⟩ := R.ow j b q
        exact ⟨p2, by unfold own1; rw [if_neg ne]; exact q1, set_get q2 ne, q3.less fun _ z => av z⟩
    · rcases own_some h with ⟨rfl, rfl⟩ | ⟨ne, h⟩
      · exact ⟨⟨d, by rw [List.getElem?_set_self hi]; rfl⟩, h1, h2, h3⟩
      · obtain ⟨⟨b, q1⟩, q2⟩ := R.onl j q h
        exact ⟨⟨b, set_get q1 ne⟩, q2⟩
    · rcases own_some a with ⟨e1, e2⟩ | ⟨_, a2⟩
      · rcases own_some b with ⟨e3, _⟩ | ⟨_, b2⟩
        · rw [e1, e3]
        · exact absurd (e2 ▸ b2) (h4 k)
      · rcases own_some b with ⟨_, e4⟩ | ⟨_, b2⟩
        · exact absurd (e4 ▸ a2) (h4 j)
        · exact R.inj j k q a2 b2
    · obtain ⟨a1, a2, a3, a4⟩ := R.hid a (List.mem_append_right _ h)
      refine ⟨a1, a2, a3, fun j z => ?_⟩
      rcases own_some z with ⟨_, e⟩ | ⟨_, z⟩
      · exact np (e ▸ h)
      · exact a4 j z
    · obtain ⟨p2, q1, q2⟩ := q.t z
      exact ⟨p2, q1, q2.less fun _ z => av z⟩
end
/-! the statement -/
def par2S (i : Nat) (oi : Bool) (a : DE) (j : Nat) (oj : Bool) (b : DE) : DS := fun env k X n => a env n (fun d n1 => b env n1 (fun e n2 => (i < env.length ∧ j < env.length) ∧ k.nx ((env.set i (evO oi d)).set j (evO oj e)) n2) (X env)) (X env)
def par3S (i : Nat) (oi : Bool) (a : DE) (j : Nat) (oj : Bool) (b : DE) (l : Nat) (ol : Bool) (g : DE) : DS := fun env k X n =>
  a env n (fun d n1 => b env n1 (fun e n2 => g env n2 (fun f n3 => (i < env.length ∧ j < env.length ∧ l < env.length) ∧ k.nx (((env.set i (evO oi d)).set j (evO oj e)).set l (evO ol f)) n3) (X env)) (X env)) (X env)
section
variable {P : Program} {w : World} {base : Heap} {k : Nat} {N : List Str} {sc : Scope} {X : Cx} {c : Cn} {pos pt pt2 px py pz : Pos} {a b g : Expr} {ta tb tg : DE} {i j l : Nat} {oi oj ol : Bool} {x y z : Str}
theorem pn_dk {own : Nat → Option Addr} {env : Env'} {n : Nat} {σ : St} {H : Hp} {gh : List (V × D)} {hid : List Addr} {o : Bool} {v : V} {d : D} (R : ER (c.wg gh hid) own env n σ H) (form : (o = false ∧ gh = [(v, d)] ∧ hid = []) ∨ (o = true ∧ gh = [] ∧ ∃ p, v = .ref p ∧ hid = [p] ∧ p ∉ c.hid)) : ∀ p, v = .ref p → o = true → ¬ IsDk c.dk p := by
  intro p e h
  rcases form with ⟨rfl, _⟩ | ⟨_, _, q, rfl, rfl, _⟩
  · cases h
  · cases e
    exact (R.hid p List.mem_cons_self).2.1
theorem s_par2 (G : Gd P w base k N sc X c) (hi : N[i]? = some x) (hj : N[j]? = some y) (hij : decide (i ≠ j) = true) (hx : sc.names.lookup x = some .local) (hy : sc.names.lookup y = some .local) (ha : PE X a (tX c (mdO oi) ta)) (hb : ∀ gh hid, Gd P w base k N sc X (c.wg gh hid) → PE X b (tX (c.wg gh hid) (mdO oj) tb))
    (hs : starEach [a, b] X.env = (false, eval a X.env) :: starEach [b] X.env) (hs2 : starEach [b] X.env = (false, eval b X.env) :: starEach [] X.env)
    (hw : swappedStores [.Tuple [.Name x px, .Name y py] kt pt] (.Tuple [a, b] k2 pt2) X.env = pure (some [x, y])) (hs3 : swapsWithSole [.Tuple [.Name x px, .Name y py] kt pt] (.Tuple [a, b] k2 pt2) pos.line X.env = pure false) :
    PS X (.Assign [.Tuple [.Name x px, .Name y py] kt pt] (.Tuple [a, b] k2 pt2) pos) (tS c (par2S i oi ta j oj tb)) := by
  have hij := of_decide_eq_true hij
  have hb' : PE X b (fun σ H Q => ∃ gh hid, tX (c.wg gh hid) (mdO oj) tb σ H Q) := ⟨fun pins s σ H Q I h => by
    obtain ⟨gh, hid, h⟩ := h
    exact (hb gh hid G.wh).run pins s σ H Q I h⟩
  refine PS.imp (ps_par G.calm (by rw [G.N]; exact G.nd) (by rw [G.N]; exact hi) (by rw [G.N]; exact hj) hij (by rw [G.sc]; exact hx) (by rw [G.sc]; exact hy) (pa_cons ha (pa_cons hb' pa_nil hs2) hs) hw hs3) fun D σ H q => ?_
  obtain ⟨own, env, n, R, kk, ll, q⟩ := q
  refine ⟨own, env, n, R, _, q, fun d n1 v H1 q e1 vi1 r1 => ?_⟩
  obtain ⟨gh, hid, R1, P1, f1, _⟩ := stage R e1 vi1 r1
  refine ⟨gh, hid, own, env, n1, R1, _, q, fun b2 n2 u H2 q e2 vi2 r2 => ?_⟩
  obtain ⟨⟨l1, l2⟩, q⟩ := q
  obtain ⟨gh2, hid2, R2, P2, f2, tr2⟩ := stage R1 e2 vi2 r2
  have P1' := tr2 oi v d (pn_dk (c := c) R1 f1) P1
  obtain ⟨own3, R3, tr3⟩ := store (i := j) R2 P2 f2 l2
  have P1'' := tr3 oi v d P1'
  obtain ⟨own4, R4, _⟩ := store (i := i) R3 P1'' f1 (by rw [List.length_set]; exact l1)
  refine ⟨v, u, rfl, ll.nx own4 _ n2 _ H2 q ?_⟩
  have c1 : (env.set i (evO oi d)).set j (evO oj b2) = (env.set j (evO oj b2)).set i (evO oi d) := List.set_comm _ _ hij
  have c2 : (σ.set i (some v)).set j (some u) = (σ.set j (some u)).set i (some v) := List.set_comm _ _ hij
  rw [c1, c2]
  exact R4
theorem s_par3 (G : Gd P w base k N sc X c) (hi : N[i]? = some x) (hj : N[j]? = some y) (hl : N[l]? = some z) (hd : decide (i ≠ j ∧ i ≠ l ∧ j ≠ l) = true) (hx : sc.names.lookup x = some .local) (hy : sc.names.lookup y = some .local) (hz : sc.names.lookup z = some .local) (ha : PE X a (tX c (mdO oi) ta))
    (hb : ∀ gh hid, Gd P w base k N sc X (c.wg gh hid) → PE X b (tX (c.wg gh hid) (mdO oj) tb)) (hg : ∀ gh hid gh2 hid2, Gd P w base k N sc X ((c.wg gh hid).wg gh2 hid2) → PE X g (tX ((c.wg gh hid).wg gh2 hid2) (mdO ol) tg))
    (hs : starEach [a, b, g] X.env = (false, eval a X.env) :: starEach [b, g] X.env) (hs2 : starEach [b, g] X.env = (false, eval b X.env) :: starEach [g] X.env) (hs4 : starEach [g] X.env = (false, eval g X.env) :: starEach [] X.env)
    (hw : swappedStores [.Tuple [.Name x px, .Name y py, .Name z pz] kt pt] (.Tuple [a, b, g] k2 pt2) X.env = pure (some [x, y, z])) (hs3 : swapsWithSole [.Tuple [.Name x px, .Name y py, .Name z pz] kt pt] (.Tuple [a, b, g] k2 pt2) pos.line X.env = pure false) :
    PS X (.Assign [.Tuple [.Name x px, .Name y py, .Name z pz] kt pt] (.Tuple [a, b, g] k2 pt2) pos) (tS c (par3S i oi ta j oj tb l ol tg)) := by
  obtain ⟨hij, hil, hjl⟩ := of_decide_eq_true hd
  have hb' : PE X b (fun σ H Q => ∃ gh hid, tX (c.wg gh hid) (mdO oj) tb σ H Q) := ⟨fun pins s σ H Q I h => by
    obtain ⟨gh, hid, h⟩ := h
    exact (hb gh hid G.wh).run pins s σ H Q I h⟩
  have hg' : PE X g (fun σ H Q => ∃ gh hid gh2 hid2, tX ((c.wg gh hid).wg gh2 hid2) (mdO ol) tg σ H Q) := ⟨fun pins s σ H Q I h => by
    obtain ⟨gh, hid, gh2, hid2, h⟩ := h
    exact (hg gh hid gh2 hid2 G.wh.wh).run pins s σ H Q I h⟩
  refine PS.imp (ps_par3 G.calm (by rw [G.N]; exact G.nd) (by rw [G.N]; exact hi) (by rw [G.N]; exact hj) (by rw [G.N]; exact hl) hij hil hjl (by rw [G.sc]; exact hx) (by rw [G.sc]; exact hy) (by rw [G.sc]; exact hz) (pa_cons ha (pa_cons hb' (pa_cons hg' pa_nil hs4) hs2) hs) hw hs3) fun D σ H q => ?_
  obtain ⟨own, env, n, R, kk, ll, q⟩ := q
  refine ⟨own, env, n, R, _, q, fun d n1 v H1 q e1 vi1 r1 => ?_⟩
  obtain ⟨gh, hid, R1, P1, f1, _⟩ := stage R e1 vi1 r1
  refine ⟨gh, hid, own, env, n1, R1, _, q, fun b2 n2 u H2 q e2 vi2 r2 => ?_⟩
  obtain ⟨gh2, hid2, R2, P2, f2, tr2⟩ := stage R1 e2 vi2 r2
  have P1' := tr2 oi v d (pn_dk (c := c) R1 f1) P1
  refine ⟨gh, hid, gh2, hid2, own, env, n2, R2, _, q, fun g2 n3 t H3 q e3 vi3 r3 => ?_⟩
  obtain ⟨⟨l1, l2, l3⟩, q⟩ := q
  obtain ⟨gh3, hid3, R3, P3, f3, tr3⟩ := stage R2 e3 vi3 r3
  have P1'' := tr3 oi v d (pn_dk (c := c) R1 f1) P1'
  have P2' := tr3 oj u b2 (pn_dk (c := c.wg gh hid) R2 f2) P2
  obtain ⟨own4, R4, tr4⟩ := store (i := l) R3 P3 f3 l3
  have Q1 := tr4 oi v d P1''
  have Q2 := tr4 oj u b2 P2'
  obtain ⟨own5, R5, tr5⟩ := store (i := j) R4 Q2 f2 (by rw [List.length_set]; exact l2)
  have Q1' := tr5 oi v d Q1
  obtain ⟨own6, R6, _⟩ := store (i := i) R5 Q1' f1 (by rw [List.length_set, List.length_set]; exact l1)
  refine ⟨v, u, t, rfl, ll.nx own6 _ n3 _ H3 q ?_⟩
  have c1 : ((env.set i (evO oi d)).set j (evO oj b2)).set l (evO ol g2) = ((env.set l (evO ol g2)).set j (evO oj b2)).set i (evO oi d) := by
    rw [List.set_comm _ _ hij, List.set_comm _ _ hil, List.set_comm _ _ hjl]
  have c2 : ((σ.set i (some v)).set j (some u)).set l (some t) = ((σ.set l (some t)).set j (some u)).set i (some v) := by
    rw [List.set_comm _ _ hij, List.set_comm _ _ hil, List.set_comm _ _ hjl]
  rw [c1, c2]
  exact R6
end
end DL
namespace DL
open PySem PySem.Spec L2
section
variable {P : Program} {w : World} {base : Heap} {k : Nat} {N : List Str} {sc : Scope} {X : Cx} {c : Cn} {a b g : Expr} {x y z : Str} {px py pz pt pt2 : Pos}
def starB : Expr → Bool
  | .Starred .. => true
  | _ => false
/-- the names are stored one by one, no tuple is made -/
def parB (sc : Scope) (ns : List (Str × Pos)) (vs : List Expr) : Bool :=
  ((if sc.kind.isAnnotationScope then ScopeKind.function else sc.kind) == .function) && ns.all (fun p => sc.names.lookup p.1 == some .local && p.2.line == ((ns.head?.map (·.2.line)).getD 0)) && ((ns.map (·.1)).eraseDups.length == ns.length) && !vs.any starB && !vs.all (foldedForSure 8) && !vs.all (constantsAlone 8) && vs.length == ns.length
theorem sw_par2 {kt k2} (G : Gd P w base k N sc X c) (h : parB sc [(x, px), (y, py)] [a, b] = true) : swappedStores [.Tuple [.Name x px, .Name y py] kt pt] (.Tuple [a, b] k2 pt2) X.env = pure (some [x, y]) := by
  unfold parB at h
  simp only [Bool.and_eq_true, Bool.not_eq_true', List.all_cons, List.all_nil, Bool.and_true, List.map_cons, List.map_nil, List.head?_cons, Option.map_some, Option.getD_some] at h
  obtain ⟨⟨⟨⟨⟨⟨h1, ⟨h2, h3⟩, h4, h5⟩, h6⟩, h7⟩, h8⟩, h9⟩, _⟩ := h
  unfold swappedStores Env.blockKind Env.kindOf
  rw [G.sc]
  have k1 : ((if sc.kind.isAnnotationScope = true then ScopeKind.function else sc.kind) != .function) = false := by rw [bne, h1]; rfl
  have e6 : ([x, y] : List Str).eraseDups.length = 2 := by simpa using h6
  have st : ∀ f : Expr → Bool, (∀ e, f e = starB e) → [a, b].any f = false := fun f hf => by rw [funext hf]; exact h7
  dsimp only
  rw [if_neg (by simp [k1]), if_neg (by rw [st _ (fun e => by cases e <;> rfl)]; exact Bool.false_ne_true)]
  have q3 : (Expr.Name x px).pos.line = px.line := rfl
  simp [h2, h4, h5, h8, h9, e6, q3, List.filterMap]
theorem sw_par3 {kt k2} (G : Gd P w base k N sc X c) (h : parB sc [(x, px), (y, py), (z, pz)] [a, b, g] = true) : swappedStores [.Tuple [.Name x px, .Name y py, .Name z pz] kt pt] (.Tuple [a, b, g] k2 pt2) X.env = pure (some [x, y, z]) := by
  unfold parB at h
  simp only [Bool.and_eq_true, Bool.not_eq_true', List.all_cons, List.all_nil, Bool.and_true, List.map_cons, List.map_nil, List.head?_cons, Option.map_some, Option.getD_some] at h
  obtain ⟨⟨⟨⟨⟨⟨h1, ⟨h2, h3⟩, ⟨h4, h5⟩, h11, h12⟩, h6⟩, h7⟩, h8⟩, h9⟩, _⟩ := h
  unfold swappedStores Env.blockKind Env.kindOf
  rw [G.sc]
  have k1 : ((if sc.kind.isAnnotationScope = true then ScopeKind.function else sc.kind) != .function) = false := by rw [bne, h1]; rfl
  have e6 : ([x, y, z] : List Str).eraseDups.length = 3 := by simpa using h6
  have st : ∀ f : Expr → Bool, (∀ e, f e = starB e) → [a, b, g].any f = false := fun f hf => by rw [funext hf]; exact h7
  dsimp only
  rw [if_neg (by simp [k1]), if_neg (by rw [st _ (fun e => by cases e <;> rfl)]; exact Bool.false_ne_true)]
  have q3 : (Expr.Name x px).pos.line = px.line := rfl
  simp [h2, h4, h5, h11, h12, h8, h9, e6, q3, List.filterMap]
end
end DL

/-! part nineteen: get with a default, setdefault in a test, pop within append -/
namespace DL
open PySem PySem.Spec L2
/-! ### d.get(k, z) -/
def getT (ta tb tc : DE) : DE := fun env => bnd (ta env) fun d => match d with
  | .dct ks ds => bnd (tb env) fun k => bnd (tc env) fun z => match keyD k with
    | some x => ret ((atK ks ds x).getD z)
    | none => stop
  | _ => stop
section
variable {P : Program} {w : World} {base : Heap} {k : Nat} {N : List Str} {sc : Scope} {X : Cx} {c : Cn} {pos apos : Pos} {o e f g : Expr} {ta tb tc tg : DE} {me mb : Md} {i j : Nat} {x y : Str}
theorem Rp.ex {K : PySem.W.Frag} {dk : DkT} {n : Nat} {H H' : Hp} {A : Addr → Prop} {v : V} {d : D} (vi : VI K dk n H) (hA : ∀ a, IsDk dk a → A a) (e : Ext dk H H') (r : Rp K dk H A v d) : Rp K dk H' A v d := Rp.ext vi hA e r
theorem e_get (G : Gd P w base k N sc X c) (ho : PE X o (tX c me ta)) (he : PE X e (tX c mb tb)) (hf : PE X f (tX c .s tc)) (m : M2 X o "get" apos e f pos) : PE X (.Call (.Attribute o "get" apos) [e, f] [] pos) (tX c .s (getT ta tb tc)) := by
  refine PE.imp (pe_dget2 (by have := G.hu; omega) ho he hf m) fun σ H Q q => ?_
  obtain ⟨own, env, n, R, Qd, q, fin⟩ := q
  refine ⟨own, env, n, R, _, q, fun d n1 v H1 q e1 vi1 r1 => ?_⟩
  have R1 := R.go e1 vi1
  have wa := R1.weak r1
  dsimp only at q
  split at q
  · rename_i ks ds
    obtain ⟨p, kvs, e0, nd, s, f1, f2⟩ := wa
    refine ⟨p, e0, .inl ⟨kvs, s⟩, own, env, n1, R1, _, q, fun dk n2 u H2 q e2 vi2 r2 => ?_⟩
    have R2 := R1.go e2 vi2
    refine ⟨own, env, n2, R2, _, q, fun dz n3 t H3 q e3 vi3 r3 => ?_⟩
    have R3 := R2.go e3 vi3
    cases hk : keyD dk with
    | none => rw [hk] at q; exact q.elim
    | some kx =>
      rw [hk] at q
      have s3 : Rd H3 p (.dK kvs) := Rd.ext' (e2.trans e3) nd s
      have f3 : RpL c.K c.dk H3 (AV c own) (kvs.map (·.2)) ds := f2.ext vi1 (fun _ z => AV.deck z) (e2.trans e3)
      have wk : Rw c.K c.dk H3 (AV c own) u dk := (R2.weak r2).ext vi2 (fun _ z => AV.deck z) e3
      have at_ := atK_val (k := kx) f3
      rw [f1] at at_
      refine ⟨valV kvs kx, by rw [kV_key wk hk]; exact .inl ⟨kvs, kx, s3, rfl, rfl⟩, fin _ n3 _ H3 q ((e1.trans e2).trans e3) vi3 ?_⟩
      show Rp c.K c.dk H3 (AV c own) _ _
      cases hh : atK ks ds kx with
      | none =>
        rw [hh] at at_
        rw [show valV kvs kx = none from at_]
        exact r3
      | some b =>
        rw [hh] at at_
        obtain ⟨w1, w2, w3⟩ := at_
        rw [w2]
        exact w3
  · exact q.elim
/-! ### if d.setdefault(k, v) != g: .. -/
def sdN (l : List Key × List D) (x : Key) (v : D) : D := if hasK l.1 x = true then .dct l.1 l.2 else .dct (putL l.1 l.2 x v).1 (putL l.1 l.2 x v).2
def sdfS (i : Nat) (tk tv tg : DE) (A B : DS) : DS := fun env k X n => match ownK env i with
  | some l => tk env n (fun dk n1 => tv env n1 (fun dv n2 => match keyD dk with
    | some x => l.1.length < sizeLine ∧ tg (env.set i (.own (sdN l x dv))) n2 (fun dg n3 => neD ((atK l.1 l.2 x).getD dv) dg n3 (fun d n4 =>
        (d = .bl true → A (env.set i (.own (sdN l x dv))) k X n4) ∧ (d = .bl false → B (env.set i (.own (sdN l x dv))) k X n4) ∧ (d = .bl true ∨ d = .bl false)) (X (env.set i (.own (sdN l x dv))))) (X (env.set i (.own (sdN l x dv))))
    | none => False) (X env)) (X env)
  | none => False
theorem s_sdf (G : Gd P w base k N sc X c) {p0 cpos : Pos} {tk tv : DE} {A B : List Stmt} {tA tB : DS} (h : nameOk N sc i x = true) (he : PE X e (tX c mb tk)) (hf : PE X f (tX c .s tv)) (hg : PE X g (tX c me tg)) (m : M2 X (.Name x p0) "setdefault" apos e f cpos) (hm : behindInMarks .NotEq g = false)
    (hA : PSs X A (tS c tA)) (hB : PSs X B (tS c tB)) {p1 : Pos} : PS X (.If (.Compare (.Call (.Attribute (.Name x p0) "setdefault" apos) [e, f] [] cpos) [.NotEq] [g] p1) A B pos) (tS c (sdfS i tk tv tg tA tB)) := by
  refine PS.imp (ps_if (pt_cmpR (op_neD (by have := G.hu; omega)) (pe_dsetd (pe_v G h) he hf m) hg hm) hA hB) fun Dn σ H q => ?_
  obtain ⟨own, env, n, R, kk, ll, q⟩ := q
  unfold sdfS at q
  split at q
  · rename_i l hl
    obtain ⟨p, g1, g2, kvs0, g3, g4, g5⟩ := R.ow i _ (ownK_eq hl)
    refine ⟨.ref p, g2, p, rfl, .inl ⟨kvs0, .inl g3⟩, own, env, n, R, _, q, fun dk n1 u H1 q e1 vi1 r1 => ?_⟩
    have R1 := R.go e1 vi1
    refine ⟨own, env, n1, R1, _, q, fun dv n2 t H2 q e2 vi2 r2 => ?_⟩
    have R2 := R1.go e2 vi2
    split at q
    · rename_i kx hk
      obtain ⟨lt, q⟩ := q
      obtain ⟨p', k1, k2, kvs, k3, k4, k5⟩ := R2.ow i _ (ownK_eq hl)
      rw [g1] at k1
      cases k1
      have wk : Rw c.K c.dk H2 (AV c own) u dk := (R1.weak r1).ext vi1 (fun _ z => AV.deck z) e2
      have rt : Rp c.K c.dk H2 (AV c own) t dv := r2
      have hlen : kvs.length < sizeLine := by
        rw [← List.length_map (f := fun a : Key × V => a.1) (as := kvs), k4]
        exact lt
      have at_ := atK_val (k := kx) k5
      rw [k4] at at_
      have has := contains_val (kvs := kvs) (k := kx)
      rw [k4] at has
      have hN : X.K = c.K := G.K
      -- what comes behind, whatever the dict is
      have behind : ∀ (v : V) (H3 : Hp), ER c own (env.set i (.own (sdN l kx dv))) n2 σ H3 → Rp c.K c.dk H3 (AV c own) v ((atK l.1 l.2 kx).getD dv) →
          tX c me tg σ H3 fun y H4 => rNeD X.K v y H4 fun z H5 => ∃ b, z = .bl b ∧ if b = true then tS c tA Dn σ H5 else tS c tB Dn σ H5 := by
        intro v H3 R3 rv
        refine ⟨own, _, n2, R3, _, q, fun dg n3 y H4 q e4 vi4 r4 => ?_⟩
        have R4 := R3.go e4 vi4
        rw [hN]
        refine o_ne own _ n3 σ H3 H3 H4 v y _ dg _ R4 (ma := .s) (mb := .w) (Rp.ext R3.vi (fun _ z => AV.deck z) e4 rv) (R4.weak r4) ⟨_, q, fun d n5 z H5 q e5 vi5 r5 => ?_⟩
        obtain ⟨q1, q2, q3⟩ := q
        rcases q3 with rfl | rfl
        · cases (show Rp c.K c.dk H5 (AV c own) z (.bl true) from r5)
          exact ⟨true, rfl, own, _, n5, R4.go e5 vi5, kk, ll, q1 rfl⟩
        · cases (show Rp c.K c.dk H5 (AV c own) z (.bl false) from r5)
          exact ⟨false, rfl, own, _, n5, R4.go e5 vi5, kk, ll, q2 rfl⟩
      refine ⟨kvs, kx, k3, kV_key wk hk, hlen, fun v hv => ?_, fun hv => ?_⟩
      · have hs : sdN l kx dv = .dct l.1 l.2 := by unfold sdN; rw [if_pos (by rw [has, hv]; rfl)]
        have R3 : ER c own (env.set i (.own (sdN l kx dv))) n2 σ H2 := by
          rw [hs]
          have e : env.set i (.own (.dct l.1 l.2)) = env := by
            apply List.ext_getElem?
            intro a
            by_cases q : i = a
            · subst q
              rw [List.getElem?_set_self (List.getElem?_eq_some_iff.mp (ownK_eq hl)).1, ownK_eq hl]
            · rw [List.getElem?_set_ne q]
          rw [e]; exact R2
        refine behind v H2 R3 ?_
        cases hh : atK l.1 l.2 kx with
        | none => rw [hh] at at_; rw [hv] at at_; cases at_
        | some b =>
          rw [hh] at at_
          obtain ⟨w1, w2, w3⟩ := at_
          rw [hv] at w2
          cases w2
          exact w3
      · have hs : sdN l kx dv = .dct (putL l.1 l.2 kx dv).1 (putL l.1 l.2 kx dv).2 := by unfold sdN; rw [if_neg (by rw [has, hv]; exact Bool.false_ne_true)]
        have keep : ∀ {vs : List V} {ds : List D}, RpL c.K c.dk H2 (AV c own) vs ds → RpL c.K c.dk (upd H2 p (.dK (putK kvs kx t))) (AV c own) vs ds := fun h => h.mono (fun a u q => by
            by_cases z : a = p
            · exact .inl (by rw [z]; exact .inr (.inr (.inl ⟨i, g1⟩)))
            · exact .inr (.inr (.inr (by rw [upd_ne z]; exact q)))) (fun a xs q => by rw [upd_ne fun z => by rw [z, k3] at q; cases q]; exact q) (fun a ob u q => by rw [upd_ne fun z => by rw [z, k3] at q; cases q]; exact q) fun _ z => z
        obtain ⟨m1, m2⟩ := putL_rel (k := kx) k5 rt
        rw [k4] at m1 m2
        have R3 : ER c own (env.set i (.own (sdN l kx dv))) n2 σ (upd H2 p (.dK (putK kvs kx t))) := by
          rw [hs]
          exact R2.mut g1 ⟨_, upd_same, m1, keep m2⟩
        refine behind t _ R3 ?_
        cases hh : atK l.1 l.2 kx with
        | none =>
          have := keep (RpL.cons rt .nil)
          cases this with
          | cons a _ => exact a
        | some b =>
          rw [hh] at at_
          obtain ⟨w1, w2, w3⟩ := at_
          rw [hv] at w2
          cases w2
    · exact q.elim
  · exact q.elim
/-! ### a.append(b.pop(e)) -/
def apopS (i j : Nat) (te : DE) : DS := fun env k X n => match ownL env i, ownL env j with
  | some la, some lb => te env n (fun d n1 => match d with
    | .int z => match seqIndex? z lb.length with
      | some m => match lb[m]? with
        | some y => (la.length < sizeLine ∧ -(2 ^ 63) ≤ z ∧ z < 2 ^ 63) ∧ k.nx ((env.set j (.own (.lst (lb.eraseIdx m)))).set i (.own (.lst (la ++ [y])))) n1
        | none => False
      | none => False
    | _ => False) (X env)
  | _, _ => False
theorem RpL.erase {K : PySem.W.Frag} {dk : DkT} {H : Hp} {A : Addr → Prop} : ∀ {vs : List V} {ds : List D} (m : Nat), RpL K dk H A vs ds → RpL K dk H A (vs.eraseIdx m) (ds.eraseIdx m)
  | _, _, m, .nil => by simp; exact .nil
  | _, _, 0, .cons _ t => by simpa using t
  | _, _, m + 1, .cons r t => by
    simp only [List.eraseIdx_cons_succ]
    exact .cons r (RpL.erase m t)
theorem r_apop {Dn : Ends} {σ : St} {H : Hp} {te : DE} {md : Md} (hij : i ≠ j) (q : tS c (apopS i j te) Dn σ H) : tDrop (tBM c.K "list" rAppend (tVar i) (tCons (tBM c.K "list" rPopAt (tVar j) (tCons (tX c md te) tNil)) tNil)) Dn σ H := by
  obtain ⟨own, env, n, R, kk, ll, q⟩ := q
  unfold apopS at q
  split at q
  · rename_i la lb hla hlb
    obtain ⟨pa, xa, a1, a2, a3, a4, a5⟩ := R.put hla
    obtain ⟨pb, xb, b1, b2, b3, b4, b5⟩ := R.put hlb
    refine ⟨.ref pa, a2, .inl ⟨rfl, xa, SqL.of a3⟩, .ref pb, b2, .inl ⟨rfl, xb, SqL.of b3⟩, own, env, n, R, _, q, fun d n1 v H1 q e1 vi1 r1 => ?_⟩
    have R1 := R.go e1 vi1
    have wa := R1.weak r1
    split at q
    · rename_i z
      split at q
      · rename_i m hm
        split at q
        · rename_i y hy
          obtain ⟨⟨l1, l2, l3⟩, q⟩ := q
          obtain ⟨pb', k1, k2, xb', k3, k4⟩ := R1.ow j _ (ownL_eq hlb)
          rw [b1] at k1
          cases k1
          obtain ⟨yv, y1, y2⟩ := k4.getD hy
          have avb : AV c own pb := .inr (.inr (.inl ⟨j, b1⟩))
          have keep : ∀ {vs : List V} {ds : List D}, RpL c.K c.dk H1 (AV c own) vs ds → RpL c.K c.dk (upd H1 pb (.lst (xb'.eraseIdx m))) (AV c own) vs ds := fun h => h.mono (fun a u q => by
            by_cases z : a = pb
            · exact .inl (by rw [z]; exact avb)
            · exact .inr (.inr (.inr (by rw [upd_ne z]; exact q)))) (fun a xs q => by rw [upd_ne fun z => by rw [z, k3] at q; cases q]; exact q) (fun a ob u q => by rw [upd_ne fun z => by rw [z, k3] at q; cases q]; exact q) fun _ z => z
          have R2 : ER c own (env.set j (.own (.lst (lb.eraseIdx m)))) n1 σ (upd H1 pb (.lst (xb'.eraseIdx m))) := R1.mut b1 ⟨_, upd_same, keep (k4.erase m)⟩
          have hla2 : ownL (env.set j (.own (.lst (lb.eraseIdx m)))) i = some la := by
            unfold ownL
            rw [List.getElem?_set_ne (Ne.symm hij), ownL_eq hla]
          obtain ⟨pa', xa', c1, c2, c3, c4, c5⟩ := R2.put hla2
          refine ⟨pb, xb', z, m, yv, rfl, by rw [wa.int'], k3, l2, l3, by rw [k4.length]; exact hm, y1, ?_⟩
          have ry := keep (RpL.cons y2 .nil)
          have e2 : pa' = pa := by
            rw [a1] at c1
            exact (Option.some.inj c1).symm
          subst e2
          exact ⟨pa', xa', yv, rfl, rfl, c3, by rw [c4]; exact l1, ll.nx _ _ n1 _ _ q (c5 [yv] [y] ry)⟩
        · exact q.elim
      · exact q.elim
    · exact q.elim
  · exact q.elim
theorem s_apop (G : Gd P w base k N sc X c) {te : DE} {md : Md} (h : nameOk N sc i x = true) (h2 : nameOk N sc j y = true) (hij : decide (i ≠ j) = true) {p0 p1 p2 p3 apos2 : Pos} (he : PE X e (tX c md te))
    (few2 : ((backTo p2 (starEach [e] X.env)).all (fun x => !x.1) && (backToKw p2 (keywordEach [] X.env)).all (fun x => x.1.isSome) && decide (([e] : List Expr).length + ([] : List Keyword).length + (if ([] : List Keyword).isEmpty then 0 else 1) < 30)) = true) (line2 : (apos2.endLine == p2.line) = true) (hs2 : starEach [e] X.env = (false, eval e X.env) :: starEach [] X.env)
    (few : ((backTo pos (starEach [.Call (.Attribute (.Name y p1) "pop" apos2) [e] [] p2] X.env)).all (fun x => !x.1) && (backToKw pos (keywordEach [] X.env)).all (fun x => x.1.isSome) && decide (([.Call (.Attribute (.Name y p1) "pop" apos2) [e] [] p2] : List Expr).length + ([] : List Keyword).length + (if ([] : List Keyword).isEmpty then 0 else 1) < 30)) = true)
    (line : (apos.endLine == pos.line) = true) (hs : starEach [.Call (.Attribute (.Name y p1) "pop" apos2) [e] [] p2] X.env = (false, eval (.Call (.Attribute (.Name y p1) "pop" apos2) [e] [] p2) X.env) :: starEach [] X.env) :
    PS X (.Expr (.Call (.Attribute (.Name x p0) "append" apos) [.Call (.Attribute (.Name y p1) "pop" apos2) [e] [] p2] [] pos) p3) (tS c (apopS i j te)) :=
  PS.imp (ps_expr (pe_bm PySem.F.plainAttrs_list PySem.F.slot_list_append PySem.F.type_list_append mt_append (pe_v G h) (pa_cons (pe_bm PySem.F.plainAttrs_list PySem.F.slot_list_pop PySem.F.type_list_pop mt_popAt (pe_v G h2) (pa_cons he pa_nil hs2) rfl few2 line2 hs2 rfl) pa_nil hs) rfl few line hs rfl) rfl) fun Dn σ H q => by rw [G.K]; exact r_apop (of_decide_eq_true hij) q
end
end DL

/-! part twenty: sorted(a list) -/
namespace DL
open PySem PySem.Spec L2 PySem.W
def alkB (l : List D) : Bool := l.all fun a => l.all fun b => alike (py a) (py b)
def tupB (l : List D) : Bool := l.all fun a => match a with | .tup (_ :: _) => true | _ => false
def flatB (l : List D) : Bool := l.all fun a => match a with | .bl _ | .int _ | .str _ | .lst _ => true | _ => false
def leDT (a b : D) : Bool := dataLe false py a b
def oneB (l : List D) : Bool := decide (l.length ≤ 1) && l.all fun a => !isNo a
def srtOk (l : List D) : Bool := l.all cmpOk && alkB l && (tupB l || flatB l || oneB l)
def sortD (a : D) : Mo D := match a with
  | .lst l => need (srtOk l = true) (ret (.lst (l.mergeSort leDT)))
  | _ => stop
theorem srtOk_alike {l : List D} (h : srtOk l = true) : AllAlike (l.map py) := by
  simp only [srtOk, Bool.and_eq_true] at h
  intro d hd e he
  obtain ⟨a, ha, rfl⟩ := List.mem_map.mp hd
  obtain ⟨b, hb, rfl⟩ := List.mem_map.mp he
  exact List.all_eq_true.mp (List.all_eq_true.mp h.1.2 a ha) b hb
theorem srtOk_sortable {l : List D} (h : srtOk l = true) : Sortable1 (l.map py) := by
  simp only [srtOk, Bool.and_eq_true, Bool.or_eq_true] at h
  rcases h.2 with (t | t) | t
  · refine .inl (.inl fun d hd => ?_)
    obtain ⟨a, ha, rfl⟩ := List.mem_map.mp hd
    have := List.all_eq_true.mp t a ha
    match a, this with
    | .tup (x :: xs), _ => exact ⟨py x, pyL xs, rfl⟩
  · refine .inl (.inr fun d hd => ?_)
    obtain ⟨a, ha, rfl⟩ := List.mem_map.mp hd
    have := List.all_eq_true.mp t a ha
    cases a with
    | bl _ => exact ⟨fun q => PyData.noConfusion q, fun xs q => PyData.noConfusion q⟩
    | int _ => exact ⟨fun q => PyData.noConfusion q, fun xs q => PyData.noConfusion q⟩
    | str _ => exact ⟨fun q => PyData.noConfusion q, fun xs q => PyData.noConfusion q⟩
    | lst _ => exact ⟨fun q => PyData.noConfusion q, fun xs q => PyData.noConfusion q⟩
    | _ => cases this
  · simp only [oneB, Bool.and_eq_true, decide_eq_true_eq] at t
    refine .inr ⟨by rw [List.length_map]; exact t.1, fun d hd => ?_⟩
    obtain ⟨a, ha, rfl⟩ := List.mem_map.mp hd
    have h2 := List.all_eq_true.mp t.2 a ha
    have h3 := cmpOk_ok (List.all_eq_true.mp h.1.1 a ha)
    cases a with
    | non => cases h2
    | dct _ _ => cases h3
    | deck => cases h3
    | obj _ => cases h3
    | _ => exact fun z => PyData.noConfusion z
def rSortD (K : PySem.W.Frag) : List V → Hp → VK → Prop := fun vs H Q => ∃ (a : Addr) (ks : List (V × D)), vs = [.ref a] ∧ SqL K H a (ks.map (·.1)) ∧ (∀ p ∈ ks, Dp K H p.1 (py p.2)) ∧ srtOk (ks.map (·.2)) = true ∧
  ∀ p, H p = none → Q (.ref p) (upd H p (.lst ((ks.mergeSort fun x y => leDT x.2 y.2).map (·.1))))
theorem each_vals {h : Heap} {K : PySem.W.Frag} : ∀ {ks : List (V × D)} {us : List Value}, Vals (ks.map (·.1)) us → EachIs (fun v (p : V × D) => RelV p.1 v) us ks
  | [], _, r => by cases r; exact .nil
  | p :: ks, _, r => by
    rw [List.map_cons] at r
    cases r with
    | cons a t => exact .cons a (each_vals (h := h) (K := K) t)
theorem vals_each : ∀ {ks : List (V × D)} {us : List Value}, EachIs (fun v (p : V × D) => RelV p.1 v) us ks → Vals (ks.map (·.1)) us
  | _, _, .nil => .nil
  | _, _, .cons a t => .cons a (vals_each t)
section
variable {X : Cx}
theorem each_reads {pins : List (Addr × Obj)} {σ : St} {H : Hp} {s : Shared} (I : Inv X pins σ H s) : ∀ {ks : List (V × D)} {us : List Value}, (∀ p ∈ ks, Dp X.K H p.1 (py p.2)) → Vals (ks.map (·.1)) us → EachIs (fun v (p : V × D) => ∃ as, Reads s.heap v (py p.2) as) us ks
  | [], _, _, r => by cases r; exact .nil
  | p :: ks, _, h, r => by
    rw [List.map_cons] at r
    cases r with
    | cons a t => exact .cons (Dp.reads I _ _ _ (h p List.mem_cons_self) a) (each_reads I (fun q hq => h q (List.mem_cons_of_mem _ hq)) t)
theorem cr_sortD (hu : X.A.units + 100 < cLine) : CallR X (.builtin "sorted") (rSortD X.K) := by
  intro pins s σ H vs us Q I r h
  obtain ⟨a, ks, rfl, hs, hd, hok, q⟩ := h
  rw [Vals.ref1 r]
  obtain ⟨its, rv, pl, hz⟩ := I.list hs
  rw [List.length_map] at hz
  have em : ks.map (fun p : V × D => py p.2) = (ks.map (·.2)).map py := by rw [List.map_map]; rfl
  refine sorted_few (enc := fun p : V × D => py p.2) pl.isList (each_vals (h := s.heap) (K := X.K) rv) (each_reads I hd rv) (by rw [em]; exact srtOk_alike hok) (by rw [em]; exact srtOk_sortable hok) hz (fun p hp => ?_) fun out hl eo => ?_
  · simp only [srtOk, Bool.and_eq_true] at hok
    have := cmpOk_dep (List.all_eq_true.mp hok.1.1 p.2 (List.mem_map.mpr ⟨p, hp, rfl⟩))
    show X.A.units + 2 + (py p.2).depth < cLine
    omega
  · obtain ⟨e, he⟩ := PyProof.Rows.sortedAll_at s.heap its out.toArray
    have hlen : ((ks.mergeSort fun x y => leDT x.2 y.2).map (·.1)).length ≤ sizeLine := by rw [List.length_map, List.length_mergeSort]; exact hz
    exact ⟨.ref (s.heap.objs.size + 1), _, I.laid (t' := s.toks) (fun b o k => PyProof.Rows.sortedAll_old k) (Nat.le_succ _) (show ObjOk X.prog X.w _ _ _ (.lst ((ks.mergeSort fun x y => leDT x.2 y.2).map (·.1))) from ⟨hlen, out, e, vals_each eo, he⟩), rfl, q _ (I.hok.fresh (Nat.le_succ _))⟩
variable {P : Program} {w : World} {base : Heap} {k : Nat} {N : List Str} {sc : Scope} {c : Cn} {pos : Pos}
theorem rpl_pairs {K : PySem.W.Frag} {dk : DkT} {H : Hp} {A : Addr → Prop} : ∀ {xs : List V} {l : List D}, RpL K dk H A xs l → ∃ ks : List (V × D), xs = ks.map (·.1) ∧ l = ks.map (·.2) ∧ ∀ p ∈ ks, Rp K dk H A p.1 p.2
  | _, _, .nil => ⟨[], rfl, rfl, fun _ h => (by cases h)⟩
  | _, _, .cons (v := v) (d := d) r t => by
    obtain ⟨ks, h1, h2, h3⟩ := rpl_pairs t
    refine ⟨(v, d) :: ks, by rw [h1]; rfl, by rw [h2]; rfl, fun p hp => ?_⟩
    rcases List.mem_cons.mp hp with z | z
    · rw [z]; exact r
    · exact h3 p z
theorem pairs_rpl {K : PySem.W.Frag} {dk : DkT} {H : Hp} {A : Addr → Prop} : ∀ {ks : List (V × D)}, (∀ p ∈ ks, Rp K dk H A p.1 p.2) → RpL K dk H A (ks.map (·.1)) (ks.map (·.2))
  | [], _ => .nil
  | p :: ks, h => .cons (h p List.mem_cons_self) (pairs_rpl fun q hq => h q (List.mem_cons_of_mem _ hq))
theorem c_sort (G : Gd P w base k N sc X c) : CalX X c (.builtin "sorted") .f sortD := by
  refine ⟨_, cr_sortD (by have := G.hu; omega), fun ma => ?_⟩
  intro own env n2 σ H0 H x a Q R ra g
  have wa := R.weak ra
  unfold sortD at g
  split at g
  · rename_i l
    obtain ⟨hok, g⟩ := g.need'
    obtain ⟨p, xs, e, nd, s, r⟩ := wa
    subst e
    obtain ⟨ks, f1, f2, f3⟩ := rpl_pairs r
    subst f1
    subst f2
    rw [G.K]
    refine ⟨p, ks, rfl, SqL.of s, fun q hq => ?_, hok, fun q hq => ?_⟩
    · simp only [srtOk, Bool.and_eq_true] at hok
      exact (Rp.dp (cmpOk_ok (List.all_eq_true.mp hok.1.1 q.2 (List.mem_map.mpr ⟨q, hq, rfl⟩))) (f3 q hq)).1
    · have em : (ks.map (·.2)).mergeSort leDT = (ks.mergeSort fun x y => leDT x.2 y.2).map (·.2) := (List.map_mergeSort (f := fun z : V × D => z.2) (r := fun x y => leDT x.2 y.2) (s := leDT) fun a _ b _ => rfl).symm
      rw [em] at g
      exact g.newL R hq (pairs_rpl fun z hz => f3 z ((List.mergeSort_perm _ _).mem_iff.mp hz))
  · exact g.stop'.elim
end
end DL

/-! part twenty-one: a op b op c -/
namespace DL
open PySem PySem.Spec L2
def chT (ta : DE) (f : D → D → Mo D) (tb : DE) (g : D → D → Mo D) (tc : DE) : DE := fun env => bnd (ta env) fun a => bnd (tb env) fun b => bnd (f a b) fun d => iteM d (bnd (tc env) fun e => g b e) (ret (.bl false))
section
variable {c : Cn} {ma mb mc : Md} {ta tb tc : DE} {r r' : R2} {f g : D → D → Mo D} {σ : St} {H : Hp} {Q : VK}
theorem ch_tX (h1 : Op2 c ma mb .s r f) (h2 : Op2 c mb mc .s r' g) (q : tX c .s (chT ta f tb g tc) σ H Q) : tChain r r' (tX c ma ta) (tX c mb tb) (tX c mc tc) σ H Q := by
  obtain ⟨own, env, n, R, Qd, q, fin⟩ := q
  refine ⟨own, env, n, R, _, q, fun a n1 x H1 q e1 vi1 ra => ?_⟩
  refine ⟨own, env, n1, R.go e1 vi1, _, q, fun b n2 y H2 q e2 vi2 rb => ?_⟩
  have R2 := (R.go e1 vi1).go e2 vi2
  refine h1 own env n2 σ H H1 H2 x y a b _ R2 (ra.on vi1 (fun _ z => AV.deck z) e2) rb ⟨_, q, fun d n3 z H3 q e3 vi3 rd => ?_⟩
  rcases iteM_cases q with ⟨rfl, q⟩ | ⟨rfl, q⟩
  · refine ⟨true, Rw.bl' ((R2.go e3 vi3).weak rd), ?_⟩
    rw [if_pos rfl]
    refine ⟨own, env, n3, R2.go e3 vi3, _, q, fun w n4 w' H4 q e4 vi4 rw => ?_⟩
    have R4 := (R2.go e3 vi3).go e4 vi4
    refine h2 own env n4 σ H1 H3 H4 y w' b w _ R4 (rb.on vi2 (fun _ z => AV.deck z) (e3.trans e4)) rw ⟨Qd, q, fun d5 n5 v5 H5 q5 e5 vi5 r5 => ?_⟩
    exact fin d5 n5 v5 H5 q5 ((((e1.trans e2).trans e3).trans e4).trans e5) vi5 (Rm.back vi4 (((e1.trans e2).trans e3).trans e4) r5)
  · refine ⟨false, Rw.bl' ((R2.go e3 vi3).weak rd), ?_⟩
    rw [if_neg (by decide)]
    exact fin _ n3 _ H3 q ((e1.trans e2).trans e3) vi3 (Rp.bl _)
end
section
variable {P : Program} {w : World} {base : Heap} {k : Nat} {N : List Str} {sc : Scope} {X : Cx} {c : Cn} {pos : Pos} {a b e : Expr} {ta tb tc : DE} {ma mb mc : Md}
theorem e_ch {op op2 : CmpOp} {f g : D → D → Mo D} (o : CmpX X c op f) (o2 : CmpX X c op2 g) (ha : PE X a (tX c ma ta)) (hb : PE X b (tX c mb tb)) (he : PE X e (tX c mc tc)) (hm : lastMarks [op, op2] [b, e] = false) :
    PE X (.Compare a [op, op2] [b, e] pos) (tX c .s (chT ta f tb g tc)) := by
  obtain ⟨r, h1, h2⟩ := o.ex
  obtain ⟨r', h3, h4⟩ := o2.ex
  exact PE.imp (pe_chain h1 h3 ha hb he hm) fun σ H Q q => ch_tX (h2 _ _) (h4 _ _) q
theorem t_ch {op op2 : CmpOp} {f g : D → D → Mo D} (o : CmpX X c op f) (o2 : CmpX X c op2 g) (ha : PE X a (tX c ma ta)) (hb : PE X b (tX c mb tb)) (he : PE X e (tX c mc tc)) (hm : lastMarks [op, op2] [b, e] = false) :
    PT X (.Compare a [op, op2] [b, e] pos) (tT c (chT ta f tb g tc)) := by
  obtain ⟨r, h1, h2⟩ := o.ex
  obtain ⟨r', h3, h4⟩ := o2.ex
  refine PT.imp (pt_chain h1 h3 ha hb he hm) fun σ H Q q => ch_tX (h2 _ _) (h4 _ _) ?_
  obtain ⟨own, env, n, R, Qd, h1, h2⟩ := q
  refine ⟨own, env, n, R, Qd, h1, fun d n' v H' q e vi r => ?_⟩
  obtain ⟨b, e1, q1⟩ := h2 d n' H' q e vi
  subst e1
  exact ⟨b, Rw.bl' r, q1⟩
end
/-! a module's constant -/
inductive PlD : D → V → Prop
  | int (i : Int) : PlD (.int i) (.int i)
  | str {x : Str} : PyData.strOk x = true → PlD (.str x) (.str x)
theorem PlD.rp {K : PySem.W.Frag} {dk : DkT} {H : Hp} {A : Addr → Prop} {d : D} {v : V} (h : PlD d v) : Rp K dk H A v d := by
  cases h with
  | int i => exact .int i
  | str h => exact .str h
def GlC (mg : Str → Option Value) (x : Str) (d : D) : Prop := ∃ u v, mg x = some u ∧ RelV v u ∧ PlD d v
theorem GlC.ofI {mg : Str → Option Value} {x : Str} {i : Int} {u : Value} (h : mg x = some u) (r : RelV (.int i) u) : GlC mg x (.int i) := ⟨u, _, h, r, .int i⟩
theorem GlC.ofS {mg : Str → Option Value} {x y : Str} {u : Value} (h : mg x = some u) (r : RelV (.str y) u) (ok : PyData.strOk y = true) : GlC mg x (.str y) := ⟨u, _, h, r, .str ok⟩
theorem GlC.at {mg mg' : Str → Option Value} {x : Str} {d : D} (hm : mg' = mg) (h : GlC mg x d) : GlC mg' x d := hm ▸ h
section
variable {P : Program} {w : World} {base : Heap} {k : Nat} {N : List Str} {sc : Scope} {X : Cx} {c : Cn} {pos : Pos}
theorem e_glob (G : Gd P w base k N sc X c) {x : Str} {d : D} (hg : glB sc x = true) (h : GlC c.mg x d) : PE X (.Name x pos) (tX c .s (kD d)) := by
  obtain ⟨g1, g2, g3⟩ := glB_of hg
  obtain ⟨u, v, h1, h2, h3⟩ := h
  refine PE.imp (pe_glob (G.gl g1) (by rw [G.mg]; exact h1) h2 g2) fun σ H Q q => ?_
  obtain ⟨own, env, n, R, g⟩ := q
  exact g.done R h3.rp
end
end DL

/-! part twenty-two: x[::-1] -/
namespace DL
open PySem PySem.Spec L2 PyProof.Rows
theorem adjust_rev (n : Nat) : Builtin.Slice.sliceAdjust none none (-1) (n : Int) = ((n : Int) - 1, -1) := by
  unfold Builtin.Slice.sliceAdjust
  rfl
theorem places_rev (n : Nat) : Builtin.Slice.slicePlaces ((n : Int) - 1) (-1) (-1) = n := by
  unfold Builtin.Slice.slicePlaces
  simp only [show ¬ ((-1 : Int) > 0) by decide, if_false]
  split
  · rename_i h
    have e : ((n : Int) - 1 - -1 - 1) / (- -1) + 1 = n := by
      rw [show (- -1 : Int) = 1 by decide, Int.ediv_one]; omega
    omega
  · omega
theorem pick_rev (xs : Array Value) : ((List.range xs.size).filterMap fun (m : Nat) => xs[(((xs.size : Int) - 1) + (m : Int) * (-1)).toNat]?).toArray = xs.toList.reverse.toArray := by
  congr 1
  have e : (List.range xs.size).filterMap (fun (m : Nat) => xs[(((xs.size : Int) - 1) + (m : Int) * (-1)).toNat]?) = ((List.range xs.size).map fun k => xs.size - 1 - k).filterMap (xs[·]?) := by
    rw [List.filterMap_map]
    have gen : ∀ l : List Nat, (∀ m ∈ l, m < xs.size) → l.filterMap (fun (m : Nat) => xs[(((xs.size : Int) - 1) + (m : Int) * (-1)).toNat]?) = l.filterMap ((xs[·]?) ∘ fun k => xs.size - 1 - k) := by
      intro l
      induction l with
      | nil => exact fun _ => rfl
      | cons m l ih =>
        intro h
        have hm := h m List.mem_cons_self
        have e : (((xs.size : Int) - 1) + (m : Int) * (-1)).toNat = xs.size - 1 - m := by omega
        rw [List.filterMap_cons, List.filterMap_cons, ih fun x hx => h x (List.mem_cons_of_mem _ hx), e]
        rfl
    exact gen _ fun m hm => List.mem_range.mp hm
  rw [e, PySem.W.krv_range, List.filterMap_reverse, PySem.W.krv_all]
section
variable {prog : Program} {w : World} {A : Around} {E : Value → Shared → Prop} {s : Shared}
theorem applied_rev {sl : Addr} {vl vu vs : Value} {n : Nat} {Q : Int × Int × Nat → Shared → Prop} (hs : s.heap.IsSliceOf sl vl vu vs) (pl : IsPart vl none) (pu : IsPart vu none) (ps : IsPart vs (some (-1)))
    (h : Q ((n : Int) - 1, -1, n) s) : wpAny (model prog w) A (Builtin.Slice.sliceApplied (.ref sl) (pure (n : Int))) Q E s := by
  obtain ⟨os, hos, hcs, hds⟩ := id hs
  unfold Builtin.Slice.sliceApplied Builtin.Slice.sliceFields
  refine wpAny_bind (wpAny_bind (wpAny_field hos hds (x := vl) rfl (wpAny_bind (wpAny_field hos hds (x := vu) rfl (wpAny_bind (wpAny_field hos hds (x := vs) rfl (wpAny_pure ?_)))))))
  refine wpAny_bind (HT.slicePart_ ps ?_)
  show wpAny _ _ (if ((-1 : Int) == 0) = true then _ else _) _ _ s
  rw [if_neg (by decide)]
  refine wpAny_bind (HT.slicePart_ pl (wpAny_bind (HT.slicePart_ pu (wpAny_bind (wpAny_pure ?_)))))
  show wpAny _ _ (match Builtin.Slice.sliceAdjust none none (-1) (n : Int) with | (lo, hi) => pure (lo, (-1 : Int), Builtin.Slice.slicePlaces lo hi (-1))) _ _ s
  rw [adjust_rev n]
  show wpAny _ _ (pure ((n : Int) - 1, (-1 : Int), Builtin.Slice.slicePlaces ((n : Int) - 1) (-1) (-1))) _ _ s
  rw [places_rev]
  exact wpAny_pure h
theorem tup_rev {t sl : Addr} {items : Array Value} {vl vu vs : Value} {Q : Value → Shared → Prop} (ht : IsTup s.heap t items) (hs : s.heap.IsSliceOf sl vl vu vs) (pl : IsPart vl none) (pu : IsPart vu none) (ps : IsPart vs (some (-1)))
    (h : Q (.ref s.heap.objs.size) { s with heap := s.heap.push { cls := .type "tuple", data := .seq items.toList.reverse.toArray } })
    (hsz : items.size ≤ sizeLine) : wpAny (model prog w) A (getItem (.ref t) (.ref sl)) Q E s := by
  have htake : sizeOk (.seq items.toList.reverse.toArray) := by
    show items.toList.reverse.toArray.size ≤ sizeLine
    rw [List.size_toArray, List.length_reverse, Array.length_toList]
    exact hsz
  obtain ⟨os, hos, hcs, hds⟩ := id hs
  have hTs : s.TypeIs (.ref sl) "slice" := ⟨os, hos, hcs⟩
  unfold getItem
  try with_reducible refine wpAny_holding ?_
  first | refine wpAny_bind (wpAny_pure ?_) | skip
  refine wpAny_bind (wpAny_sequenceKey ht.typeIs (by decide) ?_)
  refine wpAny_bind (wpAny_callSpecial?_slot (name := Str.ofString "__getitem__") ht.typeIs PyProof.Rows.slot_tuple_getitem
    (wpAny_call_entry PyProof.Rows.slot_tuple_getitem ht.typeIs entry_tuple_getitem ?_ (args_tuple_getitem _ _)))
  show wpAny _ _ (Builtin.Tuple.tupleItemsOf (.ref t) >>= _) _ _ s
  refine wpAny_bind (tupleItemsOf_ ht ?_)
  refine wpAny_bind (wpAny_typeOf hTs ?_)
  rw [if_pos (by decide)]
  refine wpAny_bind (applied_rev hs pl pu ps ?_)
  have hno : ¬ ((((items.size : Int) - 1) == 0 && (-1 : Int) == 1 && items.size == items.size) = true) := by
    rw [show ((-1 : Int) == 1) = false from rfl, Bool.and_false, Bool.false_and]
    exact Bool.false_ne_true
  show wpAny _ _ (if (((items.size : Int) - 1) == 0 && (-1 : Int) == 1 && items.size == items.size) = true then _ else _) _ _ s
  rw [if_neg hno, pick_rev]
  first
    | exact wpAny_bind (m := Builtin.Tuple.tupleExact _) (wpAny_newObj_type (wpAny_pure ⟨_, rfl, wpAny_pure h⟩) htake)
    | exact wpAny_bind (m := Builtin.Tuple.tupleExact _) (wpAny_newObj_type (wpAny_bind (wpAny_pure (wpAny_pure ⟨_, rfl, wpAny_pure h⟩))) htake)
    | exact wpAny_bind (wpAny_bind (m := Builtin.Tuple.tupleExact _) (wpAny_newObj_type (wpAny_pure (wpAny_pure ⟨_, rfl, wpAny_pure h⟩)) htake))
    | exact wpAny_bind (wpAny_bind (m := Builtin.Tuple.tupleExact _) (wpAny_newObj_type (wpAny_pure ⟨_, rfl, wpAny_pure h⟩) htake))
end
section
variable {X : Cx}
def rRev (K : PySem.W.Frag) : V → Hp → VK → Prop := fun x H Q => ∃ a xs, x = .ref a ∧ ((SqL K H a xs ∧ ∀ p, H p = none → Q (.ref p) (upd H p (.lst xs.reverse))) ∨ (SqT K H a xs ∧ NewT H xs.reverse Q))
theorem pe_rev {e : Expr} {te : TE} {k : Nat} {p1 p2 p3 pos : Pos} (he : PE X e te) : PE X (.Subscript e (.Slice none none (some (.UnaryOp .USub (.Constant (.int 1) k p1) p2)) p3) pos) (fun σ H Q => te σ H fun x H1 => rRev X.K x H1 Q) := by
  refine ⟨fun pins s σ H Q I h => ?_⟩
  refine Subscript_ (thn (he.run pins s σ H _ I h) fun v s1 ⟨x, H1, I1, r1, q1⟩ => ?_)
  obtain ⟨a, xs, ex, hq⟩ := q1
  subst ex
  cases r1
  have hst : PO X (some (.UnaryOp .USub (.Constant (.int 1) k p1) p2)) (tPart (tUn (rU fun i => .int (-i)) (tC (.int 1)))) := po_some (pe_un un_neg pe_int)
  refine wpAny_Slice (thn (po_none.run pins s1 σ H1 (fun o H2 => o = none ∧ H2 = H1) I1 ⟨rfl, rfl⟩) fun vl s2 ⟨l, H2, I2, pl, el, e2⟩ => ?_)
  subst el e2
  refine thn (po_none.run pins s2 σ H2 (fun o H3 => o = none ∧ H3 = H2) I2 ⟨rfl, rfl⟩) fun vu s3 ⟨u, H3, I3, pu, eu, e3⟩ => ?_
  subst eu e3
  refine thn (hst.run pins s3 σ H3 (fun o H4 => o = some (-1) ∧ H4 = H3) I3 ⟨1, rfl, -1, rfl, rfl, rfl⟩) fun vs s4 ⟨o, H4, I4, ps, eo, e4⟩ => ?_
  subst eo e4
  have I5 : L2.Inv X pins σ H4 { s4 with heap := s4.heap.push { cls := .type "slice", data := .fields #[vl, vu, vs] } } := I4.kept (t' := s4.toks) fun b ob q => Heap.get?_push_of_some _ q
  show wpAny (model X.prog X.w) X.A (subscriptTail e (.Slice none none (some (.UnaryOp .USub (.Constant (.int 1) k p1) p2)) p3) (.ref a) (.ref s4.heap.objs.size)) (EP X pins σ Q) X.xe { s4 with heap := s4.heap.push { cls := .type "slice", data := .fields #[vl, vu, vs] } }
  rcases hq with ⟨hx, q⟩ | ⟨hx, q⟩
  · obtain ⟨its, r, ht, hz⟩ := I5.list hx
    have hlen := r.length
    refine PyProof.Rows.tail_any (ops := [.ref a, .ref s4.heap.objs.size]) ht.isList.typeIs (PySem.slot_list_getitem.lookup) ?_ (by with_unfolding_all rfl)
    refine wpAny_getItem_list_slice ht.isList (Heap.IsSliceOf.new _ vl vu vs) pl pu ps (by decide) ?_ (by rw [List.size_toArray]; omega)
    rw [PySem.W.krv_pick]
    refine ⟨.ref _, _, I5.laid (t' := s4.toks) (o := .lst xs.reverse) (fun b ob q => Heap.get?_push_of_some _ q) (Nat.le_refl _) ?_, rfl, q _ (I5.hok.fresh (Nat.le_refl _))⟩
    exact ⟨by rw [List.length_reverse]; exact hz, _, 0, r.reverse, Heap.get?_push_size _ rfl⟩
  · obtain ⟨its, r, ht, hz⟩ := I5.tuple hx
    have hlen := r.length
    refine PyProof.Rows.tail_any (ops := [.ref a, .ref s4.heap.objs.size]) ht.typeIs (PyProof.Rows.slot_tuple_getitem.lookup) ?_ (by with_unfolding_all rfl)
    refine tup_rev ht (Heap.IsSliceOf.new _ vl vu vs) pl pu ps ?_ (by rw [List.size_toArray]; omega)
    exact laid_tup I5 (its := its.reverse) r.reverse (by rw [List.length_reverse]; exact hz) q
end
def revD : D → Mo D
  | .lst l => ret (.lst l.reverse)
  | .tup l => ret (.tup l.reverse)
  | _ => stop
theorem RpL.rev {K : PySem.W.Frag} {dk : DkT} {H : Hp} {A : Addr → Prop} : ∀ {vs : List V} {ds : List D}, RpL K dk H A vs ds → RpL K dk H A vs.reverse ds.reverse
  | _, _, .nil => .nil
  | _, _, .cons r t => by
    rw [List.reverse_cons, List.reverse_cons]
    exact (RpL.rev t).append (.cons r .nil)
section
variable {P : Program} {w : World} {base : Heap} {k : Nat} {N : List Str} {sc : Scope} {X : Cx} {c : Cn} {pos : Pos} {e : Expr} {te : DE} {me : Md}
theorem e_rev (G : Gd P w base k N sc X c) {j : Nat} {p1 p2 p3 : Pos} (he : PE X e (tX c me te)) : PE X (.Subscript e (.Slice none none (some (.UnaryOp .USub (.Constant (.int 1) j p1) p2)) p3) pos) (tX c .s (un1 te revD)) := by
  refine PE.imp (pe_rev he) fun σ H Q q => ?_
  refine op1_tX (md := .s) (r := fun x H Q => rRev X.K x H Q) ?_ q
  intro own env n σ H0 H x a Q R ra g
  have wa := R.weak ra
  unfold revD at g
  split at g
  · obtain ⟨p, xs, e1, nd, s, r⟩ := wa
    rw [G.K]
    exact ⟨p, xs, e1, .inl ⟨SqL.of s, fun q hq => g.newL R hq r.rev⟩⟩
  · obtain ⟨p, xs, e1, s, r⟩ := wa.tup'
    rw [G.K]
    exact ⟨p, xs, e1, .inr ⟨s, g.newT (by simp) R r.rev⟩⟩
  · exact g.stop'.elim
end
end DL

/-! part twenty-three: {k: v} -/
namespace DL
open PySem PySem.Spec L2
def dsp1T (tk tv : DE) : DE := fun env => bnd (tk env) fun kd => bnd (tv env) fun vd => match keyD kd with
  | some k => ret (.dct [k] [vd])
  | none => stop
theorem key_ofW {K : PySem.W.Frag} {dk : DkT} {H : Hp} {A : Addr → Prop} {v : V} {d : D} {k : Key} (h : keyD d = some k) (r : Rw K dk H A v d) : v = kV k := by
  cases d with
  | int i => exact key_of h (show Rp K dk H A v (.int i) from r)
  | str s => exact key_of h (show Rp K dk H A v (.str s) from r)
  | _ => simp [keyD] at h
section
variable {P : Program} {w : World} {base : Heap} {k : Nat} {N : List Str} {sc : Scope} {X : Cx} {c : Cn} {pos : Pos} {a b : Expr} {ta tb : DE}
theorem pe_hid {md : Md} {e : Expr} {t : DE} (G : Gd P w base k N sc X c) (h : ∀ hid, Gd P w base k N sc X (c.wg [] hid) → PE X e (tX (c.wg [] hid) md t)) : PE X e (fun σ H Q => ∃ p, tX (c.wg [] [p]) md t σ H Q) := ⟨fun pins s σ H Q I q => by
  obtain ⟨p, q⟩ := q
  exact (h [p] G.wh).run pins s σ H Q I q⟩
theorem e_dsp1 (G : Gd P w base k N sc X c) (ha : ∀ hid, Gd P w base k N sc X (c.wg [] hid) → PE X a (tX (c.wg [] hid) .w ta)) (hb : ∀ hid, Gd P w base k N sc X (c.wg [] hid) → PE X b (tX (c.wg [] hid) .s tb)) : PE X (.Dict [some a] [b] pos) (tX c .f (dsp1T ta tb)) := by
  refine PE.imp (pe_disp (pps_cons (pe_hid G ha) (pe_hid G hb) pps_nil) rfl rfl (by simp) (by show 1 ≤ 15; decide)) fun σ H Q q => ?_
  intro p hp
  obtain ⟨own, env, n, R, Qd, q, fin⟩ := q
  have nd : ¬ IsDk c.dk p := fun e => by
    obtain ⟨_, h'⟩ := R.vi.lst e
    rw [hp] at h'; cases h'
  have R1 := R.hide hp (Ext.new (o := .dK []) hp) (R.vi.new hp) nd (by rw [upd_same]; simp)
  refine ⟨p, own, env, n, R1, _, q, fun kd n1 x H1 q e1 vi1 rk => ?_⟩
  refine ⟨p, own, env, n1, R1.go e1 vi1, _, q, fun vd n2 y H2 q e2 vi2 rv => ?_⟩
  cases hkey : keyD kd with
  | none =>
    simp only [hkey] at q
    exact q.elim
  | some key =>
    simp only [hkey] at q
    have ex := key_ofW hkey (show Rw c.K c.dk H1 _ x kd from rk)
    subst ex
    have ext2 : Ext c.dk (upd H p (.dK [])) H2 := e1.trans e2
    have at2 : H2 p = some (.dK []) := (ext2 p _ upd_same).resolve_left nd
    refine ⟨at2, [(key, y)], rfl, by simp, ?_⟩
    have r : Rp c.K c.dk H2 (AV (c.wg [] [p]) own) y vd := rv
    have r2 : Rp c.K c.dk (upd H2 p (.dK (mergeK [] [(key, y)]))) (fun z => AV c own z ∨ z = p) y vd := by
      refine r.mono (fun z o h => ?_) (fun z xs h => ?_) (fun z ob u h => ?_) fun z h => ?_
      · by_cases e : z = p
        · exact .inl (.inr (.inr (.inr (by rw [e]; exact List.mem_cons_self))))
        · exact .inr (.inr (.inr (by rw [upd_ne e]; exact h)))
      · rw [upd_ne fun e => by rw [e, at2] at h; cases h]; exact h
      · rw [upd_ne fun e => by rw [e, at2] at h; cases h]; exact h
      · rcases h with h | h
        · exact h.wg
        · exact .inr (.inr (.inr (by rw [h]; exact List.mem_cons_self)))
    refine fin (.dct [key] [vd]) n2 (.ref p) _ q (fun z o h => ?_) (vi2.on fun z h => upd_ne fun e => nd (e ▸ h)) ⟨p, rfl, hp, nd, R.notAV hp, [(key, y)], upd_same, rfl, .cons r2 .nil⟩
    have ne : z ≠ p := fun e => by rw [e, hp] at h; cases h
    rcases ext2 z o (by rw [upd_ne ne]; exact h) with g | g
    · exact .inl g
    · exact .inr (by rw [upd_ne ne]; exact g)
end
end DL

/-! part twenty-four: defs that call themselves -/
namespace DL
open PySem PySem.Spec L2
def noS : DS := fun _ _ _ _ => False
theorem pss_no {X : Cx} {c : Cn} {ss : List Stmt} : PSs X ss (tS c noS) := ⟨fun pins s σ D H I h => by
  obtain ⟨own, env, n, R, kk, ll, q⟩ := h
  exact q.elim⟩
end DL

/-! part twenty-five: sorted(d.items()) -/
namespace DL
open PySem PySem.Spec L2 PyProof.Rows PySem.W LiI
def ViewO (r d : Addr) : HO := .ext fun h => h.IsItemsView r d
section
variable {X : Cx}
theorem view_ok {w : World} {P : Program} {H : Hp} {h : Heap} {r d : Addr} (R : h.IsItemsView r d) : ObjOk P w H h r (ViewO r d) := by
  obtain ⟨o, ho, x⟩ := id R
  exact ⟨R, ⟨o, ho⟩, fun h1 h2 p k => by
    obtain ⟨o', ho', x'⟩ := p
    exact ⟨o', k o' ho', x'⟩⟩
def rItems : V → Hp → VK → Prop := fun x H Q => ∃ (d : Addr) (kvs : List (Key × V)), x = .ref d ∧ Rd H d (.dK kvs) ∧ ∀ r, H r = none → Q (.ref r) (upd H r (ViewO r d))
theorem pe_items {e : Expr} {te : TE} {apos cpos : Pos} (he : PE X e te) (hbase : attributeBase e "items" X.env (eval e X.env) = eval e X.env) (hline : (apos.endLine == cpos.line) = true) : PE X (.Call (.Attribute e "items" apos) [] [] cpos) (fun σ H Q => te σ H fun x H1 => rItems x H1 Q) := by
  refine ⟨fun pins s σ H Q I hq => ?_⟩
  refine wpAny_Call_method (T := "dict") (id := "dict.items") hbase rfl hline PySem.F.plainAttrs_dict PySem.F.slot_dict_items PySem.F.type_dict_items (thn (he.run pins s σ H _ I hq) fun u s1 ⟨x, H1, I1, rx, d, kvs, ex, hd, q⟩ => ?_)
  subst ex
  obtain rfl : u = Value.ref d := rx
  obtain ⟨hz, hs0, vs, kv, hdo⟩ := hd.ok I1.hok
  refine ⟨hdo.typeIs, hdo.mapOf.noDict, ?_⟩
  show wpAny _ _ (callWith cpos (.builtin "dict.items") [.ref d] [] []) _ X.xe s1
  refine method_meetsIn PySem.F.slot_dict_items PySem.F.entry_dict_items rfl (PySem.evalArgs_none ⟨rfl, hdo.typeIs, PySem.F.args_dict_items_1 _, _, meets_dict_items (mixKind X.prog X.w) d hs0, ⟨vs, hdo⟩, ?_⟩)
  refine ⟨.ref s1.heap.objs.size, _, I1.laid (t' := s1.toks) (o := ViewO s1.heap.objs.size d) (fun b o k => Heap.get?_push_of_some _ k) (Nat.le_refl _) (view_ok ⟨_, Heap.get?_push_size _ rfl, rfl, rfl⟩), rfl, q _ (I1.hok.fresh (Nat.le_refl _))⟩
theorem tups_laid {pins : List (Addr × Obj)} {σ : L2.St} {H : Hp} {s : Shared} {h' : Heap} {tk : Nat} {kvs : List (Key × V)} {vs : List (Key × Value)} {as : List Addr} (I : L2.Inv X pins σ H s) (kv : KV kvs vs)
    (hk : ∀ b o, s.heap.get? b = some o → h'.get? b = some o) (hl : as.length = vs.length) (hG : PySem.W.KdxG (mixKind X.prog X.w) vs s.heap.objs.size h' as) :
    (∀ b o, H b = some o → putT H as kvs b = some o) ∧ (∀ t ∈ as, H t = none) ∧ Paired (fun (t : Addr) (q : Key × V) => putT H as kvs t = some (.tup [kV q.1, q.2])) as kvs ∧ (∀ b, b ∉ as → putT H as kvs b = H b) ∧ L2.Inv X pins σ (putT H as kvs) { s with heap := h', toks := tk } := by
  have lk : kvs.length = vs.length := Paired.length kv
  have nd : as.Nodup := List.Pairwise.imp (fun {a b} (h : a < b) => Nat.ne_of_lt h) hG.rise
  have new : ∀ t ∈ as, H t = none := fun t ht => I.hok.fresh (Nat.le_of_lt (hG.above t ht))
  have atP := putT_at as kvs H (by omega) nd
  have off : ∀ b, b ∉ as → putT H as kvs b = H b := fun b h1 => putT_off as kvs _ h1
  have low : ∀ b o, s.heap.get? b = some o → b ∉ as := fun b o e z => absurd (Heap.lt_size e) (Nat.not_lt.mpr (Nat.le_of_lt (hG.above b z)))
  have kp : ∀ b u, H b = some u → putT H as kvs b = some u := fun b u e => by
    rw [off b (fun z => by rw [new b z] at e; cases e)]
    exact e
  refine ⟨kp, new, atP, off, ?_⟩
  refine I.call' (ch := []) rfl ⟨fun b o q _ _ _ => hk b o q, fun b o q _ _ _ => ⟨o.slots, hk b o q⟩, fun b o q n _ => ?_, fun b o q _ => ⟨o, hk b o q⟩, fun b xs q => kp b _ q, fun b o u q => kp b _ q, fun b ps q => ⟨#[], by rw [kp b _ q]; simp⟩⟩ (fun b u q => ?_) I.bare fun b z => by simp at z
  · rw [off b (low b o q)]
    exact n
  · by_cases hb : b ∈ as
    · obtain ⟨j, pk, e1, e2, e3⟩ := paired_ix atP hb
      rw [e3] at q
      cases q
      obtain ⟨key, k, x, f1, f2, f3⟩ := hG.pairs j b e1
      obtain ⟨qv, g1, g2, g3⟩ := LiI.paired_get kv e2
      rw [f1] at g1
      cases g1
      have rk : RelV (kV pk.1) key := by
        rw [g2]
        exact relV_key (show keyIs k key = true from f2)
      exact ⟨by show 2 ≤ sizeLine; decide, [key, x], .cons rk (.cons g3 .nil), ⟨_, f3, rfl, _, rfl⟩⟩
    · rw [off b hb] at q
      exact (I.hok b u q).stay (fun d v _ y => hk d v y) (fun d y => kp d _ y) fun d xs y => kp d _ y
def refsOf (ks : List (Addr × D)) : List V := ks.map fun p => V.ref p.1
/-- sorted(d.items()) -/
def rSortI (K : PySem.W.Frag) : List V → Hp → VK → Prop := fun xs H Q => ∃ (r d : Addr) (kvs : List (Key × V)) (ds : List D), xs = [.ref r] ∧ H r = some (ViewO r d) ∧ Rd H d (.dK kvs) ∧ ds.length = kvs.length ∧ srtOk ds = true ∧
  (∀ (H' : Hp) (as : List Addr), (∀ b o, H b = some o → H' b = some o) → Paired (fun (t : Addr) (q : Key × V) => H' t = some (.tup [kV q.1, q.2])) as kvs → Paired (fun (t : Addr) (e : D) => Dp K H' (.ref t) (py e)) as ds) ∧
  ∀ (H' : Hp) (p : Addr) (as : List Addr), (∀ b o, H b = some o → H' b = some o) → (∀ t ∈ as, H t = none) → (∀ b, b ∉ as → H' b = H b) → Paired (fun (t : Addr) (q : Key × V) => H' t = some (.tup [kV q.1, q.2])) as kvs → H' p = none →
    Q (.ref p) (upd H' p (.lst (refsOf ((as.zip ds).mergeSort fun x y => leDT x.2 y.2))))
theorem zip_reads {pins : List (Addr × Obj)} {σ : L2.St} {H : Hp} {s : Shared} (I : L2.Inv X pins σ H s) : ∀ {as : List Addr} {ds : List D}, Paired (fun (t : Addr) (e : D) => Dp X.K H (.ref t) (py e)) as ds → EachIs (fun v (p : Addr × D) => v = Value.ref p.1) (as.map Value.ref) (as.zip ds) ∧ EachIs (fun v (p : Addr × D) => ∃ bs, Reads s.heap v (py p.2) bs) (as.map Value.ref) (as.zip ds)
  | _, _, .nil => ⟨.nil, .nil⟩
  | _, _, .cons (a := t) h r => by
    obtain ⟨h1, h2⟩ := zip_reads I r
    exact ⟨.cons rfl h1, .cons (Dp.reads I _ _ (.ref t) h rfl) h2⟩
theorem each_ref' : ∀ {out : List Value} {M : List (Addr × D)}, EachIs (fun v (p : Addr × D) => v = Value.ref p.1) out M → out = M.map fun p => Value.ref p.1
  | _, _, .nil => rfl
  | _, _, .cons e t => by rw [e, each_ref' t]; rfl
theorem cr_sortI (hc : X.A.handled = none) (hu : X.A.units + 100 < cLine) : CallR X (.builtin "sorted") (rSortI X.K) := by
  intro pins s σ H xs us Q I rr h
  obtain ⟨r, d, kvs, ds, rfl, hr, hd, lds, hok, hdp, q⟩ := h
  rw [Vals.ref1 rr]
  have hv : s.heap.IsItemsView r d := (I.hok r _ hr).1
  obtain ⟨hz, hs0, vs, kv, hdo⟩ := hd.ok I.hok
  obtain ⟨ep, hat⟩ := hdo.dictAt
  have lk : kvs.length = vs.length := Paired.length kv
  refine Calls.call_function_entry PyProof.Rows.kind_sorted PyProof.Rows.plain_sorted PyProof.Rows.entry_sorted (PyProof.Rows.args_sorted1 _) ?_
  unfold Builtin.«sorted»
  refine wpAny_bind (m := checkCount "sorted" 1 1 _) (wpAny_pure ?_)
  refine wpAny_bind (PySem.W.kdx_collect (A := X.A.in1) (knd := mixKind X.prog X.w) (kvs := vs) (ep := ep) hc hv hat (by omega) fun h' tk as hk hl hG => ?_)
  obtain ⟨k1, k2, k3, k4, J⟩ := tups_laid (tk := tk) I kv hk hl hG
  have dps := hdp _ as k1 k3
  have las : as.length = ds.length := Paired.length dps
  refine wpAny_bind (wpAny_newList ?_ (by rw [List.length_map]; omega))
  have at0 : (h'.push (seqObj "list" (as.map Value.ref).toArray 0)).get? h'.objs.size = some (seqObj "list" (as.map Value.ref).toArray 0) := Heap.get?_push_size _ rfl
  obtain ⟨ev, er⟩ := zip_reads J dps
  have em : (as.zip ds).map (fun p : Addr × D => py p.2) = ds.map py := by
    have e1 : (as.zip ds).map (fun p : Addr × D => py p.2) = ((as.zip ds).map Prod.snd).map py := by rw [List.map_map]; rfl
    rw [e1, List.map_snd_zip (by omega)]
  have er2 : EachIs (fun v (p : Addr × D) => ∃ bs, Reads (h'.push (seqObj "list" (as.map Value.ref).toArray 0)) v (py p.2) bs ∧ h'.objs.size ∉ bs) (as.map Value.ref) (as.zip ds) := er.mono fun v p ⟨bs, q⟩ => ⟨bs, PyProof.Rows.Reads.keeps (fun b o e => Heap.get?_push_of_some _ e) q, fun z => by
    obtain ⟨o, ho⟩ := PyProof.On.reads_mem_get q _ z
    exact Nat.lt_irrefl _ (Heap.lt_size ho)⟩
  have lz : (as.zip ds).length = as.length := by rw [List.length_zip]; omega
  refine wpAny_bind (wpAny_holding (list_sort_few (A := X.A.in1) (s := { s with heap := h'.push (seqObj "list" (as.map Value.ref).toArray 0), toks := tk }) (enc := fun p : Addr × D => py p.2) at0 ev er2 (by rw [em]; exact srtOk_alike hok) (by rw [em]; exact srtOk_sortable hok) (by omega) (fun p hp => ?_) fun out l1 l2 => ?_))
  · simp only [srtOk, Bool.and_eq_true] at hok
    have := cmpOk_dep (List.all_eq_true.mp hok.1.1 p.2 (List.of_mem_zip hp).2)
    show X.A.units + 1 + 1 + (py p.2).depth < cLine
    omega
  · have e := each_ref' l2
    subst e
    obtain ⟨c, hcc⟩ := sortedHeap_at (vs := as.map Value.ref) (out := (((as.zip ds).mergeSort (dataLe false fun p : Addr × D => py p.2)).map fun p => Value.ref p.1).toArray) at0
    have newB : putT H as kvs h'.objs.size = none := J.hok.fresh (Nat.le_refl _)
    have keep : ∀ b o, h'.get? b = some o → (sortedHeap (h'.push (seqObj "list" (as.map Value.ref).toArray 0)) h'.objs.size (as.map Value.ref) (((as.zip ds).mergeSort (dataLe false fun p : Addr × D => py p.2)).map fun p => Value.ref p.1).toArray).get? b = some o := fun b u q => by
      have lt := Heap.lt_size q
      rw [sortedHeap_old (Nat.ne_of_lt lt) (by rw [size_push']; exact Nat.lt_succ_of_lt lt)]
      exact Heap.get?_push_of_some _ q
    have hlen : (refsOf ((as.zip ds).mergeSort fun x y => leDT x.2 y.2)).length ≤ sizeLine := by unfold refsOf; rw [List.length_map, List.length_mergeSort]; omega
    have hvals : Vals (refsOf ((as.zip ds).mergeSort fun x y => leDT x.2 y.2)) (((as.zip ds).mergeSort (dataLe false fun p : Addr × D => py p.2)).map fun p => Value.ref p.1) := by
      show Vals (((as.zip ds).mergeSort (dataLe false fun p : Addr × D => py p.2)).map fun p => V.ref p.1) _
      generalize (as.zip ds).mergeSort (dataLe false fun p : Addr × D => py p.2) = M
      induction M with
      | nil => exact .nil
      | cons p M ih => exact .cons rfl ih
    exact wpAny_pure ⟨_, rfl, .ref h'.objs.size, _, J.laid (t' := tk) keep (Nat.le_refl _) (show ObjOk X.prog X.w _ _ _ (.lst (refsOf ((as.zip ds).mergeSort fun x y => leDT x.2 y.2))) from ⟨hlen, _, c, hvals, hcc⟩), rfl, q _ _ as k1 k2 k4 k3 newB⟩
end
end DL

/-! part twenty-six: comprehensions with two clauses -/
namespace DL
open PySem PySem.Spec L2
def lcL2 (tg : Tg) (tt : DE) (it1 : DI) (tg1 : Tg) (tt1 te : DE) (vs1 : List Nat) (env : Env') : List D → List D → Mo (List D)
  | [], acc => ret acc
  | d :: ds, acc => match stT tg d env with
    | some env1 => bnd (tt env1) fun b => iteL b (bnd (it1 env1) fun ds1 => bnd (lcL tg1 tt1 te (killE vs1 env1) ds1 acc) fun acc' => lcL2 tg tt it1 tg1 tt1 te vs1 env ds acc') (lcL2 tg tt it1 tg1 tt1 te vs1 env ds acc)
    | none => stop
def lcT2 (tg : Tg) (it : DI) (tt : DE) (tg1 : Tg) (it1 : DI) (tt1 te : DE) (vs vs1 : List Nat) : DE := fun env => bnd (it env) fun ds => need (noOwn vs env = true) (bnd (noX (lcL2 tg tt it1 tg1 tt1 te vs1 (killE vs env) ds [])) fun l => ret (.lst l))
def anyI (c : Cn) (t : DI) : TI := fun σ H R => ∃ gh L, tI (c.blk gh L) t σ H R
theorem pi_any {X : Cx} {c : Cn} {tg e : Expr} {t : DI} (h : ∀ gh L, PI X tg e (tI (c.blk gh L) t)) : PI X tg e (anyI c t) := ⟨fun pins s σ H R I q => by
  obtain ⟨gh, L, q⟩ := q
  exact (h gh L).run pins s σ H R I q⟩
section
variable {c : Cn} {own : Nat → Option Addr} {env : Env'} {n : Nat} {σ : St} {H : Hp} {vs : List Nat}
theorem ER.wipeS (R : ER c own env n σ H) : ∃ own', ER c own' (DL.killE vs env) n (L2.wipe σ vs) H ∧ (∀ i p, own' i = some p → own i = some p) ∧ ∀ i p, own i = some p → i ∉ vs → own' i = some p := by
  obtain ⟨own', R', h⟩ := R.wipe (vs := vs)
  refine ⟨own', R', h, fun i p hi nv => ?_⟩
  obtain ⟨⟨d, hd⟩, _⟩ := R.onl i p hi
  obtain ⟨q, hq, _⟩ := R'.ow i d (own_killE nv hd)
  have := h i q hq
  rw [hi] at this
  cases this
  exact hq
theorem blk_wg {gh gh1 : List (V × D)} {L : Addr} : (c.blk gh L).wg gh1 [] = c.blk (gh1 ++ gh) L := by
  unfold Cn.wg Cn.blk
  simp only [List.append_assoc, List.nil_append]
/-- the same, with other things known to stand -/
theorem ER.reG {gh gh1 : List (V × D)} {L : Addr} (R : ER (c.blk gh L) own env n σ H) (h : ∀ p ∈ gh1, Rp c.K c.dk H (AV (c.blk gh L) own) p.1 p.2) : ER (c.blk (gh1 ++ gh) L) own env n σ H := by
  rw [← blk_wg]
  exact R.toG h
end
theorem r_lc2 {c : Cn} {tg tg1 : Tg} {it it1 : DI} {tt tt1 te : DE} {vs vs1 : List Nat} (hsl : ∀ i ∈ slotsT tg, i ∈ vs) (hsl1 : ∀ i ∈ slotsT tg1, i ∈ vs1) (hv : ∀ i ∈ vs1, i ∈ vs) {σ : St} {H : Hp} {Q : VK} (q : tX c .f (lcT2 tg it tt tg1 it1 tt1 te vs vs1) σ H Q) :
    tLc2 (tI c it) (gT c.K tg) (anyT c tt) (anyI c it1) (gT c.K tg1) (anyT c tt1) (anyE c te) vs vs1 σ H Q := by
  obtain ⟨own, env, n, R, Qd, q, g⟩ := q
  refine ⟨own, env, n, R, _, q, fun ds n1 J H1 gh q e vi hgh hw L hL => ?_⟩
  have R1 := R.go e vi
  obtain ⟨hno, q⟩ := q
  have q : lcL2 tg tt it1 tg1 tt1 te vs1 (killE vs env) ds [] n1 (fun l n2 => Qd (.lst l) n2) (fun _ _ => False) := q
  obtain ⟨own', Rw, how⟩ := R1.wipe (vs := vs)
  have sub : ∀ a, AV c own' a → AV c own a := by
    rintro a (h | h | ⟨i, h⟩ | h)
    · exact .inl h
    · exact .inr (.inl h)
    · exact .inr (.inr (.inl ⟨i, how i a h⟩))
    · exact .inr (.inr (.inr h))
  have R2 := Rw.toBlk hL (gh := gh) fun p hp => (hgh p hp).less sub
  have nd : ¬ IsDk c.dk L := (R2.hid L List.mem_cons_self).2.1
  refine ⟨fun i m H2 => m = ds.length - i ∧ i ≤ ds.length ∧ ∃ own2 n2 acc accD, ER (c.blk gh L) own2 (killE vs env) n2 (wipe σ vs) H2 ∧ (∀ i p, own2 i = some p → own' i = some p) ∧ Ext c.dk H1 H2 ∧ H2 L = some (.lst acc) ∧ RpL c.K c.dk H2 (AV (c.blk gh L) own2) acc accD ∧
    lcL2 tg tt it1 tg1 tt1 te vs1 (killE vs env) (ds.drop i) accD n2 (fun l n2 => Qd (.lst l) n2) (fun _ _ => False), ⟨ds.length, by omega, Nat.zero_le _, own', n1, [], [], R2, fun _ _ h => h, Ext.new hL, upd_same, .nil, by simpa using q⟩, fun i m H2 w => ?_⟩
  obtain ⟨hm, hle, own2, n2, acc, accD, R3, ho2, ex3, hL3, ra, q3⟩ := w
  have hgh2 : ∀ p ∈ gh, Rp c.K c.dk H2 (AV (c.blk gh L) own2) p.1 p.2 := fun p hp => R3.gh p (List.mem_append_left _ hp)
  obtain ⟨w1, w2, w3⟩ := hw _ i H2 hgh2
  by_cases hi : i < ds.length
  · refine .inr ⟨w1 hi, fun H' => ∃ own2 n2 acc accD, ER (c.blk gh L) own2 (killE vs env) n2 (wipe σ vs) H' ∧ (∀ i p, own2 i = some p → own' i = some p) ∧ Ext c.dk H1 H' ∧ H' L = some (.lst acc) ∧ RpL c.K c.dk H' (AV (c.blk gh L) own2) acc accD ∧
      lcL2 tg tt it1 tg1 tt1 te vs1 (killE vs env) (ds.drop (i + 1)) accD n2 (fun l n2 => Qd (.lst l) n2) (fun _ _ => False), fun H' w' => ⟨ds.length - (i + 1), by omega, rfl, hi, w'⟩, fun x H' y => ?_⟩
    obtain ⟨st, yd⟩ := w3 x H' y
    obtain ⟨d, hd, rd⟩ := yd hi
    have ex4 : Ext c.dk H2 H' := ext_step st
    have R4 : ER (c.blk gh L) own2 (killE vs env) n2 (wipe σ vs) H' := R3.go ex4 (vi_step R3.vi st)
    rw [List.drop_eq_getElem_cons hi] at q3
    have ed : ds[i] = d := by
      rw [List.getElem?_eq_getElem hi] at hd
      exact Option.some.inj hd
    rw [ed] at q3
    cases he : stT tg d (killE vs env) with
    | none =>
      simp only [lcL2, he] at q3
      exact q3.elim
    | some env1 =>
      simp only [lcL2, he] at q3
      refine gT_ok (c := c.blk gh L) R4 rd he fun own5 σ5 R5 hw5 ho5 => ⟨(hw5 vs hsl).trans wipe_wipe, gh, L, own5, env1, n2, R5, _, q3, fun b n6 H6 q6 e6 vi6 => ?_⟩
      have ex6 : Ext c.dk H2 H6 := ex4.trans e6
      have R4' : ER (c.blk gh L) own2 (killE vs env) n6 (wipe σ vs) H6 := R4.go e6 vi6
      have hL6 : H6 L = some (.lst acc) := (ex6 L _ hL3).resolve_left nd
      have ra6 : RpL c.K c.dk H6 (AV (c.blk gh L) own2) acc accD := ra.ext R3.vi (fun _ z => AV.deck (c := c.blk gh L) z) ex6
      rcases iteL_cases q6 with ⟨rfl, q6⟩ | ⟨rfl, q6⟩
      · refine ⟨true, rfl, ?_⟩
        show anyI c it1 σ5 H6 _
        refine ⟨gh, L, own5, env1, n6, R5.go e6 vi6, _, q6, fun ds1 n7 J1 H7 gh1 q7 e7 vi7 hgh7 hw7 => ?_⟩
        -- the inner walk
        have R7o : ER (c.blk gh L) own2 (killE vs env) n7 (wipe σ vs) H7 := R4'.go e7 vi7
        have R7i : ER (c.blk (gh1 ++ gh) L) own5 env1 n7 σ5 H7 := ((R5.go e6 vi6).go e7 vi7).reG hgh7
        have hL7 : H7 L = some (.lst acc) := (e7 L _ hL6).resolve_left nd
        have ra7 : RpL c.K c.dk H7 (AV (c.blk gh L) own2) acc accD := ra6.ext R4'.vi (fun _ z => AV.deck (c := c.blk gh L) z) e7
        have exA : Ext c.dk H1 H7 := ex3.trans (ex6.trans e7)
        obtain ⟨own7, R7, how7, keep7⟩ := R7i.wipeS (vs := vs1)
        have own25 : ∀ j a, own2 j = some a → own5 j = some a := fun j a h => by
          obtain ⟨⟨d', h1⟩, _⟩ := R3.onl j a h
          exact ho5 j a h fun z => (killE_own h1).1 (hsl j z)
        have own27 : ∀ j a, own2 j = some a → own7 j = some a := fun j a h => by
          obtain ⟨⟨d', h1⟩, _⟩ := R3.onl j a h
          exact keep7 j a (own25 j a h) fun z => (killE_own h1).1 (hv j z)
        refine ⟨fun j k H8 => k = ds1.length - j ∧ j ≤ ds1.length ∧ ∃ own8 n8 acc8 accD8, (∀ j a, own2 j = some a → own8 j = some a) ∧ ER (c.blk gh L) own2 (killE vs env) n8 (wipe σ vs) H8 ∧ ER (c.blk (gh1 ++ gh) L) own8 (killE vs1 env1) n8 (wipe σ5 vs1) H8 ∧ Ext c.dk H1 H8 ∧ H8 L = some (.lst acc8) ∧ RpL c.K c.dk H8 (AV (c.blk gh L) own2) acc8 accD8 ∧
          lcL tg1 tt1 te (killE vs1 env1) (ds1.drop j) accD8 n8 (fun acc' n9 => lcL2 tg tt it1 tg1 tt1 te vs1 (killE vs env) (ds.drop (i + 1)) acc' n9 (fun l n2 => Qd (.lst l) n2) (fun _ _ => False)) (fun _ _ => False),
          ⟨ds1.length, by omega, Nat.zero_le _, own7, n7, acc, accD, own27, R7o, R7, exA, hL7, ra7, q7⟩, fun j k H8 w8 => ?_⟩
        obtain ⟨hk, hle8, own8, n8, acc8, accD8, ow8, R8o, R8, ex8, hL8, ra8, q8⟩ := w8
        have hgh8 : ∀ p ∈ gh1, Rp c.K c.dk H8 (AV (c.blk (gh1 ++ gh) L) own8) p.1 p.2 := fun p hp => R8.gh p (List.mem_append_left _ (List.mem_append_left _ hp))
        obtain ⟨v1, v2, v3⟩ := hw7 _ j H8 hgh8
        by_cases hj : j < ds1.length
        · refine .inr ⟨v1 hj, fun H' => ∃ own8 n8 acc8 accD8, (∀ j a, own2 j = some a → own8 j = some a) ∧ ER (c.blk gh L) own2 (killE vs env) n8 (wipe σ vs) H' ∧ ER (c.blk (gh1 ++ gh) L) own8 (killE vs1 env1) n8 (wipe σ5 vs1) H' ∧ Ext c.dk H1 H' ∧ H' L = some (.lst acc8) ∧ RpL c.K c.dk H' (AV (c.blk gh L) own2) acc8 accD8 ∧
            lcL tg1 tt1 te (killE vs1 env1) (ds1.drop (j + 1)) accD8 n8 (fun acc' n9 => lcL2 tg tt it1 tg1 tt1 te vs1 (killE vs env) (ds.drop (i + 1)) acc' n9 (fun l n2 => Qd (.lst l) n2) (fun _ _ => False)) (fun _ _ => False), fun H' w' => ⟨ds1.length - (j + 1), by omega, rfl, hj, w'⟩, fun x1 H9 y1 => ?_⟩
          obtain ⟨st1, yd1⟩ := v3 x1 H9 y1
          obtain ⟨d1, hd1, rd1⟩ := yd1 hj
          have ex9 : Ext c.dk H8 H9 := ext_step st1
          have vi9 := vi_step R8.vi st1
          have R9 : ER (c.blk (gh1 ++ gh) L) own8 (killE vs1 env1) n8 (wipe σ5 vs1) H9 := R8.go ex9 vi9
          have R9o : ER (c.blk gh L) own2 (killE vs env) n8 (wipe σ vs) H9 := R8o.go ex9 vi9
          rw [List.drop_eq_getElem_cons hj] at q8
          have ed1 : ds1[j] = d1 := by
            rw [List.getElem?_eq_getElem hj] at hd1
            exact Option.some.inj hd1
          rw [ed1] at q8
          cases he1 : stT tg1 d1 (killE vs1 env1) with
          | none =>
            simp only [lcL, he1] at q8
            exact q8.elim
          | some env2 =>
            simp only [lcL, he1] at q8
            refine gT_ok (c := c.blk (gh1 ++ gh) L) R9 rd1 he1 fun own10 σ10 R10 hw10 ho10 => ⟨(hw10 vs1 hsl1).trans wipe_wipe, gh1 ++ gh, L, own10, env2, n8, R10, _, q8, fun b1 n11 H11 q11 e11 vi11 => ?_⟩
            have ex11 : Ext c.dk H8 H11 := ex9.trans e11
            have hL11 : H11 L = some (.lst acc8) := (ex11 L _ hL8).resolve_left nd
            have R11o : ER (c.blk gh L) own2 (killE vs env) n11 (wipe σ vs) H11 := R9o.go e11 vi11
            have R11 : ER (c.blk (gh1 ++ gh) L) own8 (killE vs1 env1) n11 (wipe σ5 vs1) H11 := R9.go e11 vi11
            have ra11 : RpL c.K c.dk H11 (AV (c.blk gh L) own2) acc8 accD8 := ra8.ext R8o.vi (fun _ z => AV.deck (c := c.blk gh L) z) ex11
            rcases iteL_cases q11 with ⟨rfl, q11⟩ | ⟨rfl, q11⟩
            · refine ⟨true, rfl, ?_⟩
              show anyE c te σ10 H11 _
              refine ⟨gh1 ++ gh, L, own10, env2, n11, R10.go e11 vi11, _, q11, fun y n12 v H12 q12 e12 vi12 r12 => ?_⟩
              obtain ⟨hz, q12⟩ := q12
              have hL12 : H12 L = some (.lst acc8) := (e12 L _ hL11).resolve_left nd
              have R12o : ER (c.blk gh L) own2 (killE vs env) n12 (wipe σ vs) H12 := R11o.go e12 vi12
              have R12 : ER (c.blk (gh1 ++ gh) L) own8 (killE vs1 env1) n12 (wipe σ5 vs1) H12 := R11.go e12 vi12
              have ra12 : RpL c.K c.dk H12 (AV (c.blk gh L) own2) acc8 accD8 := ra11.ext R11o.vi (fun _ z => AV.deck (c := c.blk gh L) z) e12
              obtain ⟨R13o, m13⟩ := R12o.hidMut (o' := .lst (acc8 ++ [v])) List.mem_cons_self hL12
              obtain ⟨R13, _⟩ := R12.hidMut (o' := .lst (acc8 ++ [v])) List.mem_cons_self hL12
              have r12 : Rp c.K c.dk H12 (AV (c.blk (gh1 ++ gh) L) own10) v y := r12
              have rv : Rp c.K c.dk H12 (AV (c.blk gh L) own2) v y := by
                refine r12.less ?_
                rintro a (h | h | ⟨jj, h⟩ | h)
                · exact .inl h
                · exact .inr (.inl h)
                · obtain ⟨⟨d', h1⟩, _⟩ := R3.onl jj a h
                  exact .inr (.inr (.inl ⟨jj, ho10 jj a (ow8 jj a h) fun z => (killE_own h1).1 (hv jj (hsl1 jj z))⟩))
                · exact .inr (.inr (.inr h))
              refine ⟨acc8, hL12, by rw [ra12.length]; exact hz, own8, n12, acc8 ++ [v], accD8 ++ [y], ow8, R13o, R13, ?_, upd_same, m13 (ra12.append (.cons rv .nil)), q12⟩
              intro a o h
              rcases (ex8.trans (ex11.trans e12)) a o h with z | z
              · exact .inl z
              · exact .inr (by rw [upd_ne (ne_of_none h hL)]; exact z)
            · refine ⟨false, rfl, ?_⟩
              exact ⟨own8, n11, acc8, accD8, ow8, R11o, R11, ex8.trans ex11, hL11, ra11, q11⟩
        · have ej : j = ds1.length := by omega
          refine .inl ⟨v2 (by omega), ?_⟩
          rw [ej, List.drop_length] at q8
          exact ⟨own2, n8, acc8, accD8, R8o, ho2, ex8, hL8, ra8, q8⟩
      · refine ⟨false, rfl, ?_⟩
        exact ⟨own2, n6, acc, accD, R4', ho2, ex3.trans ex6, hL6, ra6, q6⟩
  · have ei : i = ds.length := by omega
    refine .inl ⟨w2 (by omega), ?_⟩
    rw [ei, List.drop_length] at q3
    have q3 : Qd (.lst accD) n2 := q3
    refine g _ n2 _ H2 q3 (e.trans ex3) R3.vi ⟨L, rfl, e.fresh vi hL, nd, ?_, acc, hL3, ?_⟩
    · exact R.notAV (e.fresh vi hL)
    · refine ra.less ?_
      rintro a ((h | h | ⟨j, h⟩ | h) | h)
      · exact .inl h
      · exact .inr (.inl h)
      · obtain ⟨⟨d', h1⟩, _⟩ := R.onl j a h
        have nj : j ∉ vs := fun z => by
          have := List.all_eq_true.mp hno j z
          rw [h1] at this
          exact Bool.noConfusion this
        obtain ⟨p', h2, _⟩ := R3.ow j d' (own_killE nj h1)
        have h3 := how j p' (ho2 j p' h2)
        rw [h] at h3
        cases h3
        exact .inr (.inr (.inl ⟨j, h2⟩))
      · exact .inr (.inr (.inr (List.mem_cons_of_mem _ h)))
      · exact .inr (.inr (.inr (by rw [h]; exact List.mem_cons_self)))
section
variable {P : Program} {w : World} {base : Heap} {k : Nat} {N : List Str} {sc : Scope} {X : Cx} {c : Cn}
variable {elt tge iter tge1 iter1 : Expr} {ifs ifs1 : List Expr} {scope : Scope} {pos : Pos} {tg tg1 : Tg} {it it1 : DI} {tt tt1 te : DE}
theorem e_lc2 (G : Gd P w base k N sc X c) (own : List (Str × Nat)) (vs1 : List Nat) (hi : PI X tge iter (tI c it)) (ok : blkC N sc scope own = true) (hsl : (slotsT tg).all (fun i => (own.map (·.2)).contains i) = true) (hsl1 : (slotsT tg1).all (fun i => vs1.contains i) = true) (hv : vs1.all (fun i => (own.map (·.2)).contains i) = true) (hs : ∀ x, foldedSetIterable iter X.env x = pure x) (hs1 : ∀ env x, foldedSetIterable iter1 env x = pure x)
    (hg : ∀ (X' : Cx) (c' : Cn), Gd P w base k N (relS scope sc) X' c' → X'.A = X.A → X'.fn = (fun x => scope.names.lookup x == some .cell) → PG X' tge (gT X'.K tg))
    (hg1 : ∀ (X' : Cx) (c' : Cn), Gd P w base k N (relS scope sc) X' c' → X'.A = X.A → X'.fn = (fun x => scope.names.lookup x == some .cell) → PG X' tge1 (gT X'.K tg1))
    (hi1 : ∀ (X' : Cx) (c' : Cn), c'.K = c.K → c'.mg = c.mg → Gd P w base k N (relS scope sc) X' c' → X'.A = X.A → PI X' tge1 iter1 (tI c' it1))
    (ht : ∀ (X' : Cx) (c' : Cn), c'.K = c.K → c'.mg = c.mg → Gd P w base k N (relS scope sc) X' c' → X'.A = X.A → PTs X' ifs (tT c' tt))
    (ht1 : ∀ (X' : Cx) (c' : Cn), c'.K = c.K → c'.mg = c.mg → Gd P w base k N (relS scope sc) X' c' → X'.A = X.A → PTs X' ifs1 (tT c' tt1))
    (he : ∀ (X' : Cx) (c' : Cn), c'.K = c.K → c'.mg = c.mg → Gd P w base k N (relS scope sc) X' c' → X'.A = X.A → PE X' elt (tX c' .s te)) : PE X (.ListComp elt [⟨tge, iter, ifs, 0⟩, ⟨tge1, iter1, ifs1, 0⟩] scope pos) (tX c .f (lcT2 tg it tt tg1 it1 tt1 te (own.map (·.2)) vs1)) := by
  have mm : ∀ {l m : List Nat}, l.all (fun i => m.contains i) = true → ∀ i ∈ l, i ∈ m := fun h i hi => by
    have := List.all_eq_true.mp h i hi
    simpa using this
  refine PE.imp (pe_lc2 (g := gT X.K tg) (g1 := gT X.K tg1) (vs1 := vs1) G.calm (by rw [G.N]; exact G.nd) hi (own := own) (by rw [G.N, G.sc]; exact blkOk_by ok) (mm hv)
    (fun s H C cl fp => by have := hg _ _ (G.blk (gh := []) (L := 0) (scope := scope) (s := s) (H := H) (C := C) (cl := cl) (fp := fp)) rfl rfl; exact this)
    (fun s H C cl fp => pt_any fun gh L => ht _ _ rfl rfl G.blk rfl)
    (fun s H C cl fp => pi_any fun gh L => hi1 _ _ rfl rfl G.blk rfl)
    (fun s H C cl fp => by have := hg1 _ _ (G.blk (gh := []) (L := 0) (scope := scope) (s := s) (H := H) (C := C) (cl := cl) (fp := fp)) rfl rfl; exact this)
    (fun s H C cl fp => pt_any fun gh L => ht1 _ _ rfl rfl G.blk rfl)
    (fun s H C cl fp => pe_any fun gh L => he _ _ rfl rfl G.blk rfl) hs hs1) fun σ H Q q => ?_
  rw [G.K]
  exact r_lc2 (mm hsl) (mm hsl1) (mm hv) q
theorem s_lc2 {i : Nat} {y : Str} {py spos : Pos} {own' : Bool} (G : Gd P w base k N sc X c) (hloc : isLoc sc y = true) (hN : N[i]? = some y) (own : List (Str × Nat)) (vs1 : List Nat) (hsw : swapsWith (.ListComp elt [⟨tge, iter, ifs, 0⟩, ⟨tge1, iter1, ifs1, 0⟩] scope pos) (some (.Name y py)) spos.line X.env = pure true) (hi : PI X tge iter (tI c it)) (ok : blkC N sc scope own = true) (hsl : (slotsT tg).all (fun i => (own.map (·.2)).contains i) = true) (hsl1 : (slotsT tg1).all (fun i => vs1.contains i) = true) (hv : vs1.all (fun i => (own.map (·.2)).contains i) = true) (hs : ∀ x, foldedSetIterable iter X.env x = pure x) (hs1 : ∀ env x, foldedSetIterable iter1 env x = pure x)
    (hg : ∀ (X' : Cx) (c' : Cn), Gd P w base k N (relS scope sc) X' c' → X'.A = X.A → X'.fn = (fun x => scope.names.lookup x == some .cell) → PG X' tge (gT X'.K tg))
    (hg1 : ∀ (X' : Cx) (c' : Cn), Gd P w base k N (relS scope sc) X' c' → X'.A = X.A → X'.fn = (fun x => scope.names.lookup x == some .cell) → PG X' tge1 (gT X'.K tg1))
    (hi1 : ∀ (X' : Cx) (c' : Cn), c'.K = c.K → c'.mg = c.mg → Gd P w base k N (relS scope sc) X' c' → X'.A = X.A → PI X' tge1 iter1 (tI c' it1))
    (ht : ∀ (X' : Cx) (c' : Cn), c'.K = c.K → c'.mg = c.mg → Gd P w base k N (relS scope sc) X' c' → X'.A = X.A → PTs X' ifs (tT c' tt))
    (ht1 : ∀ (X' : Cx) (c' : Cn), c'.K = c.K → c'.mg = c.mg → Gd P w base k N (relS scope sc) X' c' → X'.A = X.A → PTs X' ifs1 (tT c' tt1))
    (he : ∀ (X' : Cx) (c' : Cn), c'.K = c.K → c'.mg = c.mg → Gd P w base k N (relS scope sc) X' c' → X'.A = X.A → PE X' elt (tX c' .s te)) :
    PS X (.Assign [.Name y py] (.ListComp elt [⟨tge, iter, ifs, 0⟩, ⟨tge1, iter1, ifs1, 0⟩] scope pos) spos) (tS c (if own' then asgO i (lcT2 tg it tt tg1 it1 tt1 te (own.map (·.2)) vs1) else asgS i (lcT2 tg it tt tg1 it1 tt1 te (own.map (·.2)) vs1))) := by
  have mm : ∀ {l m : List Nat}, l.all (fun i => m.contains i) = true → ∀ i ∈ l, i ∈ m := fun h i hi => by
    have := List.all_eq_true.mp h i hi
    simpa using this
  refine PS.imp (ps_setLc2 (g := gT X.K tg) (g1 := gT X.K tg1) (vs1 := vs1) G.calm (by rw [G.N]; exact G.nd) (by rw [G.N]; exact hN) (by rw [G.sc]; exact isLoc_of hloc) hsw hi (own := own) (by rw [G.N, G.sc]; exact blkOk_by ok) (mm hv)
    (fun s H C cl fp => by have := hg _ _ (G.blk (gh := []) (L := 0) (scope := scope) (s := s) (H := H) (C := C) (cl := cl) (fp := fp)) rfl rfl; exact this)
    (fun s H C cl fp => pt_any fun gh L => ht _ _ rfl rfl G.blk rfl)
    (fun s H C cl fp => pi_any fun gh L => hi1 _ _ rfl rfl G.blk rfl)
    (fun s H C cl fp => by have := hg1 _ _ (G.blk (gh := []) (L := 0) (scope := scope) (s := s) (H := H) (C := C) (cl := cl) (fp := fp)) rfl rfl; exact this)
    (fun s H C cl fp => pt_any fun gh L => ht1 _ _ rfl rfl G.blk rfl)
    (fun s H C cl fp => pe_any fun gh L => he _ _ rfl rfl G.blk rfl) hs hs1) fun D σ H q => ?_
  rw [G.K]
  have imp : ∀ {md : Md} {t : TE} (h : ∀ σ H Q, tX c md (lcT2 tg it tt tg1 it1 tt1 te (own.map (·.2)) vs1) σ H Q → t σ H Q), tAsg (tX c md (lcT2 tg it tt tg1 it1 tt1 te (own.map (·.2)) vs1)) (gName i) D σ H → tAsg t (gName i) D σ H := fun h q => h _ _ _ q
  cases own' with
  | true => exact imp (fun _ _ _ q => r_lc2 (mm hsl) (mm hsl1) (mm hv) q) (r_asgO q)
  | false => exact imp (fun _ _ _ q => r_lc2 (mm hsl) (mm hsl1) (mm hv) (tX.ofF q)) (r_asg q)
theorem sw_lc2 {y : Str} {py : Pos} {l : Nat} (G : Gd P w base k N sc X c) (hk : sc.kind = .function) (hloc : isLoc sc y = true) (hl : (py.line == pos.line) = true) (ha : (scope.names.any fun (n, k) => n == y && (k == .local || k == .cell)) = false) :
    swapsWith (.ListComp elt [⟨tge, iter, ifs, 0⟩, ⟨tge1, iter1, ifs1, 0⟩] scope pos) (some (.Name y py)) l X.env = pure true := sw_true (by rw [G.sc]; exact hk) (by rw [G.sc]; exact isLoc_of hloc) hl ha
end
end DL

/-! part twenty-seven: list(zip(a, b)) of lists and tuples -/
namespace DL
open PySem PySem.Spec
section
variable {prog : Program} {w : World} {A : Around} {E : Value → Shared → Prop} {s : Shared} {z TI TO i1 i2 : Addr} {fp1 fp2 : List Addr} {n1 n2 i : Nat} {P1 P2 : Nat → Value → Prop} {St1 St2 : Nat → Heap → Prop}
theorem zip_next_held {T : Addr} {f : Bool} {oT : Obj} {Q : Value → Shared → Prop} (S : ZipSep2 z TI TO i1 i2 fp1 fp2) (D1 : Draws prog w A i1 fp1 n1 P1 St1) (D2 : Draws prog w A i2 fp2 n2 P2 St2)
    (hz : IsZipHeld s.heap z TI TO T f) (hT : s.heap.get? T = some oT) (hTI : IsTupOf2 s.heap TI (.ref i1) (.ref i2)) (st1 : St1 i s.heap) (st2 : St2 i s.heap) (hlt1 : i < n1) (hlt2 : i < n2)
    (hQ : ∀ x1 x2 h' tk, P1 i x1 → P2 i x2 → IsZipHeld h' z TI TO T true → St1 (i + 1) h' → St2 (i + 1) h' → IsTupOf2 h' s.heap.objs.size x1 x2 → h'.objs.size = s.heap.objs.size + 1 →
      (∀ c o, c ≠ z → c ≠ i1 → c ≠ i2 → s.heap.get? c = some o → h'.get? c = some o) → Q (.ref s.heap.objs.size) { s with heap := h', toks := tk }) :
    wpAny (model prog w) A (Builtin.«zip.__next__» ⟨[.ref z], []⟩) (fun fin s' => ∃ v, fin = .done (.ret v) ∧ Q v s') E s := by
  obtain ⟨hp, g, d, tk0, os⟩ := s
  show wpAny _ _ (field (.ref z) 2 >>= _) _ _ _
  refine wpAny_bind (wpAny_field hz rfl (x := .bool false) rfl ?_)
  show wpAny _ _ (field (.ref z) 3 >>= _) _ _ _
  refine wpAny_bind (wpAny_field hz rfl (x := .ref TI) rfl ?_)
  refine wpAny_bind (wpAny_seqItems hTI rfl ?_)
  show wpAny _ _ (Builtin.SmallTypes.ownedTupleIsFree (.ref z) >>= _) _ _ _
  refine wpAny_bind (wpAny_tupleHeld_zip hz hT fun g0 hz0 hs0 => ?_)
  replace hs0 : Heap.SameBut z hp g0 := hs0
  simp only [Bool.false_eq_true, if_false]
  refine wpAny_bind ?_
  rw [← Array.forIn_toList]
  simp only [List.forIn_cons, List.forIn_nil]
  refine wpAny_bind (wpAny_bind (wpAny_holding ?_))
  show wpAny _ _ (Builtin.SmallTypes.nextOf (.ref i1) >>= _) _ _ ⟨g0, g, d, tk0, os⟩
  refine wpAny_bind (D1.item i _ _ _ hlt1 (D1.over st1 hs0 S.zf1) fun x1 p1 tk1 hx1 sn1 hp1 => wpAny_pure ?_)
  replace hp1 : Heap.SameBut i1 g0 p1 := hp1
  refine wpAny_pure ?_
  refine wpAny_bind (wpAny_bind (wpAny_holding ?_))
  show wpAny _ _ (Builtin.SmallTypes.nextOf (.ref i2) >>= _) _ _ ⟨p1, g, d, tk1, os⟩
  refine wpAny_bind (D2.item i _ _ _ hlt2 (D2.over (D2.over st2 hs0 S.zf2) hp1 S.sep1_2) fun x2 p2 tk2 hx2 sn2 hp2 => wpAny_pure ?_)
  replace hp2 : Heap.SameBut i2 p1 p2 := hp2
  refine wpAny_pure (wpAny_pure ?_)
  show wpAny _ _ (newTuple [x1, x2] >>= _) _ _ ⟨p2, g, d, tk2, os⟩
  refine wpAny_bind (wpAny_newTuple ?_)
  have hsz : p2.objs.size = hp.objs.size := by rw [hp2.1, hp1.1, hs0.1]
  have hz3 : IsZipHeld p2 z TI TO T true := hp2.extBut _ _ S.zi2 (hp1.extBut _ _ S.zi1 hz0)
  have hk : ∀ c o, c ≠ z → c ≠ i1 → c ≠ i2 → hp.get? c = some o → p2.get? c = some o := fun c o c1 c2 c3 e => hp2.extBut _ _ c3 (hp1.extBut _ _ c2 (hs0.extBut _ _ c1 e))
  refine wpAny_pure ⟨_, rfl, ?_⟩
  show Q (.ref p2.objs.size) ⟨p2.push { cls := .type "tuple", data := .seq #[x1, x2] }, g, d, tk2, os⟩
  have hp' : IsTupOf2 (p2.push { cls := .type "tuple", data := .seq #[x1, x2] }) p2.objs.size x1 x2 := Heap.get?_push_size _ rfl
  have hz4 : (p2.push { cls := .type "tuple", data := .seq #[x1, x2] }).objs.size = p2.objs.size + 1 := Heap.size_push ..
  rw [hsz] at hp' hz4 ⊢
  exact hQ x1 x2 _ tk2 hx1 hx2 (Heap.get?_push_of_some _ hz3) (D1.frame _ _ _ (D1.over sn1 hp2 S.sep2_1) fun b _ o e => Heap.get?_push_of_some _ e) (D2.frame _ _ _ sn2 fun b _ o e => Heap.get?_push_of_some _ e) hp' hz4 fun c o c1 c2 c3 e => Heap.get?_push_of_some _ (hk c o c1 c2 c3 e)
theorem zip_end_held {T : Addr} {f : Bool} {oT : Obj} {Q : Fin → Shared → Prop} (S : ZipSep2 z TI TO i1 i2 fp1 fp2) (D1 : Draws prog w A i1 fp1 n1 P1 St1) (D2 : Draws prog w A i2 fp2 n2 P2 St2)
    (hz : IsZipHeld s.heap z TI TO T f) (hT : s.heap.get? T = some oT) (hTI : IsTupOf2 s.heap TI (.ref i1) (.ref i2)) (st1 : St1 i s.heap) (st2 : St2 i s.heap) (hle1 : i ≤ n1) (hle2 : i ≤ n2) (hend : i = n1 ∨ i = n2)
    (hE : ∀ h' tk e, (∀ c o, c ≠ z → c ≠ i1 → c ≠ i2 → s.heap.get? c = some o → h'.get? c = some o) → (∃ o, h'.get? e = some o ∧ o.cls = .type "StopIteration") → E (.ref e) { s with heap := h', toks := tk }) :
    wpAny (model prog w) A (Builtin.«zip.__next__» ⟨[.ref z], []⟩) Q E s := by
  obtain ⟨hp, g, d, tk0, os⟩ := s
  show wpAny _ _ (field (.ref z) 2 >>= _) _ _ _
  refine wpAny_bind (wpAny_field hz rfl (x := .bool false) rfl ?_)
  show wpAny _ _ (field (.ref z) 3 >>= _) _ _ _
  refine wpAny_bind (wpAny_field hz rfl (x := .ref TI) rfl ?_)
  refine wpAny_bind (wpAny_seqItems hTI rfl ?_)
  show wpAny _ _ (Builtin.SmallTypes.ownedTupleIsFree (.ref z) >>= _) _ _ _
  refine wpAny_bind (wpAny_tupleHeld_zip hz hT fun g0 hz0 hs0 => ?_)
  replace hs0 : Heap.SameBut z hp g0 := hs0
  simp only [Bool.false_eq_true, if_false]
  refine wpAny_bind ?_
  rw [← Array.forIn_toList]
  simp only [List.forIn_cons, List.forIn_nil]
  refine wpAny_bind (wpAny_bind (wpAny_holding ?_))
  show wpAny _ _ (Builtin.SmallTypes.nextOf (.ref i1) >>= _) _ _ ⟨g0, g, d, tk0, os⟩
  by_cases hlt1 : i < n1
  · refine wpAny_bind (D1.item i _ _ _ hlt1 (D1.over st1 hs0 S.zf1) fun x1 p1 tk1 hx1 sn1 hp1 => wpAny_pure ?_)
    replace hp1 : Heap.SameBut i1 g0 p1 := hp1
    refine wpAny_pure ?_
    have hi2 : i = n2 := by omega
    refine wpAny_bind (wpAny_bind (wpAny_holding ?_))
    show wpAny _ _ (Builtin.SmallTypes.nextOf (.ref i2) >>= _) _ _ ⟨p1, g, d, tk1, os⟩
    refine wpAny_bind (D2.done ⟨p1, g, d, tk1, os⟩ _ _ (by rw [← hi2]; exact (D2.over (D2.over st2 hs0 S.zf2) hp1 S.sep1_2)) fun q e hq he => ?_)
    replace hq : Heap.ExtBut i2 p1 q := hq
    exact hE q tk1 e (fun c o c1 c2 c3 x => hq _ _ c3 (hp1.extBut _ _ c2 (hs0.extBut _ _ c1 x))) he
  · have hi1 : i = n1 := by omega
    refine wpAny_bind (D1.done ⟨g0, g, d, tk0, os⟩ _ _ (by rw [← hi1]; exact (D1.over st1 hs0 S.zf1)) fun q e hq he => ?_)
    replace hq : Heap.ExtBut i1 g0 q := hq
    exact hE q tk0 e (fun c o c1 c2 c3 x => hq _ _ c2 (hs0.extBut _ _ c1 x)) he
theorem ne_lo {lo x t : Nat} (h1 : x < lo) (h2 : lo ≤ t) : t ≠ x := Nat.ne_of_gt (Nat.lt_of_lt_of_le h1 h2)
/-- where the zip stands ahead of turn i -/
def ZSt (z TI TO i1 i2 : Addr) (St1 St2 : Nat → Heap → Prop) (lo i : Nat) (h : Heap) : Prop := IsTupOf2 h TI (.ref i1) (.ref i2) ∧ St1 i h ∧ St2 i h ∧ ((IsZip h z TI TO .none ∧ ∃ a1 a2, IsTupOf2 h TO a1 a2) ∨ ∃ (T : Addr) (f : Bool) (oT : Obj), lo ≤ T ∧ IsZipHeld h z TI TO T f ∧ h.get? T = some oT)
theorem zst_item {lo : Nat} {Q : Option Value → Shared → Prop} (S : ZipSep2 z TI TO i1 i2 fp1 fp2) (hlo : z < lo ∧ TI < lo ∧ TO < lo ∧ i1 < lo ∧ i2 < lo) (D1 : Draws prog w A.in1 i1 fp1 n1 P1 St1) (D2 : Draws prog w A.in1 i2 fp2 n2 P2 St2) (hsz : lo ≤ s.heap.objs.size) (st : ZSt z TI TO i1 i2 St1 St2 lo i s.heap) (hlt1 : i < n1) (hlt2 : i < n2)
    (hQ : ∀ x1 x2 h' tk, P1 i x1 → P2 i x2 → ZSt z TI TO i1 i2 St1 St2 lo (i + 1) h' → IsTupOf2 h' s.heap.objs.size x1 x2 → h'.objs.size = s.heap.objs.size + 1 →
      (∀ c o, c ≠ z → c ≠ TO → c ≠ i1 → c ≠ i2 → s.heap.get? c = some o → h'.get? c = some o) → Q (some (.ref s.heap.objs.size)) { s with heap := h', toks := tk }) : wpAny (model prog w) A (pyNext (.ref z)) Q E s := by
  obtain ⟨hTI, st1, st2, hz⟩ := st
  obtain ⟨l1, l2, l3, l4, l5⟩ := hlo
  rcases hz with ⟨hz, a1, a2, hTO⟩ | ⟨T, f, oT, hT0, hz, hT⟩
  · refine wpAny_pyNext_zipD2_item S D1 D2 hz hTI hTO st1 st2 hlt1 hlt2 fun x1 x2 h' tk y1 y2 b1 b2 d1 d2 b5 b6 b7 => hQ x1 x2 h' tk y1 y2 ⟨b7 _ _ S.TIz S.TITO S.TIi1 S.TIi2 hTI, d1, d2, .inr ⟨s.heap.objs.size, false, _, hsz, b1, b5⟩⟩ b5 b6 b7
  · have hTy : s.TypeIs (.ref z) "zip" := ⟨_, hz, rfl⟩
    unfold pyNext
    refine wpAny_bind (wpAny_attempt (wpAny_callSpecial?_slot (name := Str.ofString "__next__") hTy F.slot_zip_next
      (wpAny_call_entry F.slot_zip_next hTy F.entry_zip_next
        (zip_next_held S D1 D2 hz hT hTI st1 st2 hlt1 hlt2 fun x1 x2 h' tk y1 y2 b1 d1 d2 b5 b6 b7 => wpAny_pure (hQ x1 x2 h' tk y1 y2 ⟨b7 _ _ S.TIz S.TIi1 S.TIi2 hTI, d1, d2, .inr ⟨T, true, oT, hT0, b1, b7 _ _ (ne_lo l1 hT0) (ne_lo l4 hT0) (ne_lo l5 hT0) hT⟩⟩ b5 b6 fun c o c1 _ c3 c4 e => b7 c o c1 c3 c4 e)) (F.args_zip_next_1 _))))
theorem zst_end {lo : Nat} {Q : Option Value → Shared → Prop} (S : ZipSep2 z TI TO i1 i2 fp1 fp2) (D1 : Draws prog w A.in1 i1 fp1 n1 P1 St1) (D2 : Draws prog w A.in1 i2 fp2 n2 P2 St2) (st : ZSt z TI TO i1 i2 St1 St2 lo i s.heap) (hle1 : i ≤ n1) (hle2 : i ≤ n2) (hend : i = n1 ∨ i = n2)
    (hQ : ∀ h' tk, (∀ c o, c ≠ z → c ≠ TO → c ≠ i1 → c ≠ i2 → s.heap.get? c = some o → h'.get? c = some o) → Q none { s with heap := h', toks := tk }) : wpAny (model prog w) A (pyNext (.ref z)) Q E s := by
  obtain ⟨hTI, st1, st2, hz⟩ := st
  rcases hz with ⟨hz, a1, a2, hTO⟩ | ⟨T, f, oT, hT0, hz, hT⟩
  · exact wpAny_pyNext_zipD2_end S D1 D2 hz hTI hTO st1 st2 hle1 hle2 hend hQ
  · have hTy : s.TypeIs (.ref z) "zip" := ⟨_, hz, rfl⟩
    unfold pyNext
    refine wpAny_bind (wpAny_attempt (wpAny_callSpecial?_slot (name := Str.ofString "__next__") hTy F.slot_zip_next
      (wpAny_call_entry F.slot_zip_next hTy F.entry_zip_next (zip_end_held S D1 D2 hz hT hTI st1 st2 hle1 hle2 hend fun h' tk e hk he => ?_) (F.args_zip_next_1 _))))
    obtain ⟨o, ho, hc⟩ := he
    refine wpAny_bind (wpAny_isInstance (T := "StopIteration") (b := true) ⟨o, ho, hc⟩ PySem.isSubtype_stop ?_)
    exact wpAny_pure (hQ _ _ fun c o c1 _ c3 c4 e => hk c o c1 c3 c4 e)
/-- the pairs drawn -/
structure ZPs (P1 P2 : Nat → Value → Prop) (lo : Nat) (h : Heap) (as : List Addr) : Prop where
  rise : as.Pairwise (· < ·)
  lo : ∀ t ∈ as, lo ≤ t
  lt : ∀ t ∈ as, t < h.objs.size
  pairs : ∀ j t, as[j]? = some t → ∃ x y, P1 j x ∧ P2 j y ∧ IsTupOf2 h t x y
theorem ZPs.keep {lo : Nat} {h h' : Heap} {as : List Addr} (Z : ZPs P1 P2 lo h as) (hk : ∀ b o, lo ≤ b → h.get? b = some o → h'.get? b = some o) (hs : h.objs.size ≤ h'.objs.size) : ZPs P1 P2 lo h' as :=
  ⟨Z.rise, Z.lo, fun t ht => Nat.lt_of_lt_of_le (Z.lt t ht) hs, fun j t e => by
    obtain ⟨x, y, h1, h2, h3⟩ := Z.pairs j t e
    exact ⟨x, y, h1, h2, hk _ _ (Z.lo t (List.mem_of_getElem? e)) h3⟩⟩
theorem ZPs.snoc {lo : Nat} {h : Heap} {as : List Addr} {t : Addr} {x y : Value} (Z : ZPs P1 P2 lo h as) (hl : lo ≤ t) (hlt : t < h.objs.size) (hr : ∀ a ∈ as, a < t) (h1 : P1 as.length x) (h2 : P2 as.length y) (h3 : IsTupOf2 h t x y) : ZPs P1 P2 lo h (as ++ [t]) :=
  ⟨List.pairwise_append.mpr ⟨Z.rise, by simp, fun a ha b hb => by rw [List.mem_singleton.mp hb]; exact hr a ha⟩, fun b hb => by
    rcases List.mem_append.mp hb with hb | hb
    · exact Z.lo b hb
    · rw [List.mem_singleton.mp hb]; exact hl, fun b hb => by
    rcases List.mem_append.mp hb with hb | hb
    · exact Z.lt b hb
    · rw [List.mem_singleton.mp hb]; exact hlt, fun j b e => by
    by_cases hj : j < as.length
    · rw [List.getElem?_append_left hj] at e
      exact Z.pairs j b e
    · rw [List.getElem?_append_right (by omega)] at e
      have : j - as.length = 0 := by
        cases q : j - as.length with
        | zero => rfl
        | succ m => rw [q] at e; simp at e
      have ej : j = as.length := by omega
      rw [this] at e
      simp at e
      subst e ej
      exact ⟨x, y, h1, h2, h3⟩⟩
theorem refs_push (as : List Addr) (t : Addr) : (as.map Value.ref).toArray.push (.ref t) = ((as ++ [t]).map Value.ref).toArray := by simp
theorem zl_loop {R : Result → Shared → Prop} {lo : Nat} {S0 : Addr} (S : ZipSep2 z TI TO i1 i2 fp1 fp2) (hlo : z < lo ∧ TI < lo ∧ TO < lo ∧ i1 < lo ∧ i2 < lo) (hS0 : S0 < lo) (hS1 : S0 ≠ z ∧ S0 ≠ TI ∧ S0 ≠ TO ∧ S0 ≠ i1 ∧ S0 ≠ i2 ∧ S0 ∉ fp1 ∧ S0 ∉ fp2) (D1 : Draws prog w A.in1.in1 i1 fp1 n1 P1 St1) (D2 : Draws prog w A.in1.in1 i2 fp2 n2 P2 St2) (hn : min n1 n2 ≤ sizeLine) (res : Value) :
    ∀ (k i : Nat) (s : Shared) (as : List Addr) (c : Nat), min n1 n2 - i = k → i ≤ min n1 n2 → ZSt z TI TO i1 i2 St1 St2 lo i s.heap → lo ≤ s.heap.objs.size → s.heap.get? S0 = some { cls := .type "list", dict := none, data := .seq (as.map Value.ref).toArray c, slots := #[] } → as.length = i → ZPs P1 P2 lo s.heap as →
    (∀ h' tk as' c', (∀ b o, b ≠ S0 → b ≠ z → b ≠ TO → b ≠ i1 → b ≠ i2 → s.heap.get? b = some o → h'.get? b = some o) → h'.get? S0 = some { cls := .type "list", dict := none, data := .seq (as'.map Value.ref).toArray c', slots := #[] } → as'.length = min n1 n2 → ZPs P1 P2 lo h' as' → R (.ok (.ret res)) { s with heap := h', toks := tk }) →
    codeAny (model prog w) A (.builtin "list.extend.loop" ⟨[.ref S0, .ref z, res], []⟩) R s := by
  intro k
  induction k with
  | zero =>
    intro i s as c hk hi st hsz hS hl hZ hR
    have hin : i = min n1 n2 := by omega
    refine codeAny_builtin F.entry_extend_loop ?_
    rw [Around.under_plainId F.plain_extend_loop _]
    show wpAny _ A.in1 (pyNext (.ref z) >>= _) _ _ s
    refine wpAny_bind (zst_end S D1 D2 st (by omega) (by omega) (by omega) fun h' tk hk' => ?_)
    have hz2 : s.heap.objs.size ≤ h'.objs.size ∨ True := .inr trivial
    refine wpAny_pure (hR h' tk as c (fun b o _ c1 c2 c3 c4 e => hk' b o c1 c2 c3 c4 e) (hk' _ _ hS1.1 hS1.2.2.1 hS1.2.2.2.1 hS1.2.2.2.2.1 hS) (hl.trans hin) ⟨hZ.rise, hZ.lo, fun t ht => ?_, fun j t e => ?_⟩)
    · obtain ⟨j, hj, e⟩ := List.mem_iff_getElem.mp ht
      obtain ⟨x, y, _, _, h3⟩ := hZ.pairs j t (by rw [List.getElem?_eq_getElem hj, e])
      have l := hZ.lo t ht
      exact Heap.lt_size (hk' _ _ (ne_lo hlo.1 l) (ne_lo hlo.2.2.1 l) (ne_lo hlo.2.2.2.1 l) (ne_lo hlo.2.2.2.2 l) h3)
    · obtain ⟨x, y, h1, h2, h3⟩ := hZ.pairs j t e
      have l := hZ.lo t (List.mem_of_getElem? e)
      exact ⟨x, y, h1, h2, hk' _ _ (ne_lo hlo.1 l) (ne_lo hlo.2.2.1 l) (ne_lo hlo.2.2.2.1 l) (ne_lo hlo.2.2.2.2 l) h3⟩
  | succ k ih =>
    intro i s as c hk hi st hsz hS hl hZ hR
    have hlt : i < min n1 n2 := by omega
    refine codeAny_builtin F.entry_extend_loop ?_
    rw [Around.under_plainId F.plain_extend_loop _]
    show wpAny _ A.in1 (pyNext (.ref z) >>= _) _ _ s
    refine wpAny_bind (zst_item S hlo D1 D2 hsz st (by omega) (by omega) fun x1 x2 h' tk hP1 hP2 st' hT' hsz' hk' => ?_)
    have hS' := hk' _ _ hS1.1 hS1.2.2.1 hS1.2.2.2.1 hS1.2.2.2.2.1 hS
    show wpAny _ A.in1 (updateSeq S0 (·.push (.ref s.heap.objs.size)) >>= _) _ _ { s with heap := h', toks := tk }
    refine wpAny_bind ?_
    have up : ∀ b, b ≠ S0 → (h'.update S0 (Obj.mapSeq (·.push (.ref s.heap.objs.size)))).get? b = h'.get? b := fun b hb => Heap.get?_update_other _ _ (Ne.symm hb)
    have usz : (h'.update S0 (Obj.mapSeq (·.push (.ref s.heap.objs.size)))).objs.size = h'.objs.size := (Heap.SameBut.update ..).1
    have nS : s.heap.objs.size ≠ S0 := ne_lo hS0 hsz
    obtain ⟨c2, hc2⟩ : ∃ c2, (h'.update S0 (Obj.mapSeq (·.push (.ref s.heap.objs.size)))).get? S0 = some { cls := .type "list", dict := none, data := .seq ((as ++ [s.heap.objs.size]).map Value.ref).toArray c2, slots := #[] } := by
      rw [← refs_push]
      exact ⟨_, Heap.get?_update_self _ hS' rfl⟩
    refine wpAny_updateSeq hS' rfl (wpAny_pure ⟨plainId_quiet F.plain_extend_loop _, ih (i + 1) _ (as ++ [s.heap.objs.size]) c2 (by omega) hlt ?_ (by show lo ≤ (h'.update S0 _).objs.size; rw [usz]; omega) hc2 (by simp [hl]) ?_ fun h2 tk2 as' c' hk2 hS2 hl2 hZ2 => ?_⟩) (by simp; omega) (by simp; omega)
    · obtain ⟨s1, s2, s3, s4⟩ := st'
      show ZSt z TI TO i1 i2 St1 St2 lo (i + 1) (h'.update S0 (Obj.mapSeq (·.push (.ref s.heap.objs.size))))
      refine ⟨(up _ hS1.2.1.symm).trans s1, D1.frame _ _ _ s2 fun b hb o e => by rw [up _ fun q => hS1.2.2.2.2.2.1 (q ▸ hb)]; exact e, D2.frame _ _ _ s3 fun b hb o e => by rw [up _ fun q => hS1.2.2.2.2.2.2 (q ▸ hb)]; exact e, ?_⟩
      rcases s4 with ⟨s4, a1, a2, s5⟩ | ⟨T, f, oT, s4, s5, s6⟩
      · exact .inl ⟨(up _ hS1.1.symm).trans s4, a1, a2, (up _ hS1.2.2.1.symm).trans s5⟩
      · exact .inr ⟨T, f, oT, s4, (up _ hS1.1.symm).trans s5, (up _ (ne_lo hS0 s4)).trans s6⟩
    · show ZPs P1 P2 lo (h'.update S0 (Obj.mapSeq (·.push (.ref s.heap.objs.size)))) (as ++ [s.heap.objs.size])
      have k1 : ZPs P1 P2 lo (h'.update S0 (Obj.mapSeq (·.push (.ref s.heap.objs.size)))) as := hZ.keep (fun b o hb e => by
        rw [up _ (ne_lo hS0 hb)]
        exact hk' _ _ (ne_lo hlo.1 hb) (ne_lo hlo.2.2.1 hb) (ne_lo hlo.2.2.2.1 hb) (ne_lo hlo.2.2.2.2 hb) e) (by rw [usz]; omega)
      exact k1.snoc hsz (Nat.lt_of_lt_of_eq (Nat.lt_of_lt_of_eq (Nat.lt_succ_self _) hsz'.symm) usz.symm) hZ.lt (by rw [hl]; exact hP1) (by rw [hl]; exact hP2) ((up _ nS).trans hT')
    · refine hR h2 tk2 as' c' (fun b o b0 b1 b2 b3 b4 e => hk2 b o b0 b1 b2 b3 b4 ?_) hS2 hl2 hZ2
      show (h'.update S0 (Obj.mapSeq (·.push (.ref s.heap.objs.size)))).get? b = some o
      rw [up _ b0]
      exact hk' b o b1 b2 b3 b4 e
theorem nolen_zip : typeLookup (.type "zip") "__len__" = pure none := by rw [typeLookup_type, builtinLookup_eq_fast]; kernel_rfl
theorem nohint_zip : typeLookup (.type "zip") "__length_hint__" = pure none := by rw [typeLookup_type, builtinLookup_eq_fast]; kernel_rfl
end
end DL

namespace DL
open PySem PySem.Spec
section
variable {prog : Program} {w : World} {A : Around} {E : Value → Shared → Prop} {s : Shared} {z TI TO i1 i2 : Addr} {fp1 fp2 : List Addr} {n1 n2 i : Nat} {P1 P2 : Nat → Value → Prop} {St1 St2 : Nat → Heap → Prop}
theorem zl_extend {R : Result → Shared → Prop} {lo c : Nat} {S0 : Addr} (hh : A.handled = none) (S : ZipSep2 z TI TO i1 i2 fp1 fp2) (hlo : z < lo ∧ TI < lo ∧ TO < lo ∧ i1 < lo ∧ i2 < lo) (hS0 : S0 < lo) (hS1 : S0 ≠ z ∧ S0 ≠ TI ∧ S0 ≠ TO ∧ S0 ≠ i1 ∧ S0 ≠ i2 ∧ S0 ∉ fp1 ∧ S0 ∉ fp2) (D1 : ∀ A : Around, A.handled = none → Draws prog w A i1 fp1 n1 P1 St1) (D2 : ∀ A : Around, A.handled = none → Draws prog w A i2 fp2 n2 P2 St2) (hn : min n1 n2 ≤ sizeLine) (res : Value)
    (hz : IsZip s.heap z TI TO .none) (hTI : IsTupOf2 s.heap TI (.ref i1) (.ref i2)) (hTO : ∃ a1 a2, IsTupOf2 s.heap TO a1 a2) (st1 : St1 0 s.heap) (st2 : St2 0 s.heap) (hsz : lo ≤ s.heap.objs.size)
    (hS : s.heap.get? S0 = some { cls := .type "list", data := .seq #[] c })
    (hR : ∀ h' tk as' c', (∀ b o, b ≠ S0 → b ≠ z → b ≠ TO → b ≠ i1 → b ≠ i2 → s.heap.get? b = some o → h'.get? b = some o) → h'.get? S0 = some { cls := .type "list", dict := none, data := .seq (as'.map Value.ref).toArray c', slots := #[] } → as'.length = min n1 n2 → ZPs P1 P2 lo h' as' → R (.ok (.ret res)) { s with heap := h', toks := tk }) :
    wpAny (model prog w) A.in1 (Builtin.List.listExtendWith (.ref S0) (.ref z) res)
      (fun fin s' => match fin with | .done f => R (.ok f) s' | .again c' => c'.quiet = true ∧ codeAny (model prog w) A c' R s') (fun e s' => R (.error e) s') s := by
  have hT : s.TypeIs (.ref z) "zip" := ⟨_, hz, rfl⟩
  unfold Builtin.List.listExtendWith
  refine wpAny_bind (wpAny_typeOf hT ?_)
  have h1 : Builtin.List.listSameRef (.ref S0) (.ref z) = false := by simp [Builtin.List.listSameRef, hS1.1]
  have h2 : (Value.type "zip" == Value.type "list") = false := by decide
  have h3 : (Value.type "zip" == Value.type "tuple") = false := by decide
  simp only [h1, h2, h3, Bool.or_false, Bool.false_eq_true, if_false]
  refine wpAny_bind (wpAny_pyIter_zip hz ?_)
  refine wpAny_bind (wpAny_holding ?_)
  unfold Builtin.List.listLengthHint
  refine wpAny_bind (wpAny_specialOf hT nolen_zip ?_)
  show wpAny _ A.in1 (specialOf (Value.ref z) (Str.ofString "__length_hint__") >>= _) _ _ _
  refine wpAny_bind (wpAny_specialOf hT nohint_zip ?_)
  refine wpAny_pure ?_
  show wpAny _ A.in1 (rule "list.extend.makes-room" >>= fun _ => Builtin.List.listTouch (.ref S0) >>= fun _ =>
    again (.builtin "list.extend.loop" ⟨[.ref S0, .ref z, res], []⟩)) _ _ _
  refine wpAny_bind (wpAny_rule ?_)
  refine wpAny_bind ?_
  show wpAny _ A.in1 (updateSeq S0 (·.push .none) >>= fun _ => updateSeq S0 (·.pop)) _ _ _
  refine wpAny_bind (wpAny_updateSeq hS rfl ?_)
  have hS₂ := Heap.get?_update_self (Obj.mapSeq (·.push Value.none)) hS rfl
  refine wpAny_updateSeq (hz := by seq_fits) hS₂ rfl ?_
  have hS₃ := Heap.get?_update_self (Obj.mapSeq (·.pop)) hS₂ rfl
  have oth : ∀ b, b ≠ S0 → ((s.heap.update S0 (Obj.mapSeq (·.push Value.none))).update S0 (Obj.mapSeq (·.pop))).get? b = s.heap.get? b :=
    fun b hb => (Heap.get?_update_other _ _ (Ne.symm hb)).trans (Heap.get?_update_other _ _ (Ne.symm hb))
  have usz : ((s.heap.update S0 (Obj.mapSeq (·.push Value.none))).update S0 (Obj.mapSeq (·.pop))).objs.size = s.heap.objs.size := ((Heap.SameBut.update ..).1).trans (Heap.SameBut.update ..).1
  obtain ⟨a1, a2, hTO⟩ := hTO
  refine wpAny_pure ⟨plainId_quiet F.plain_extend_loop _, zl_loop (lo := lo) S hlo hS0 hS1 (D1 _ hh) (D2 _ hh) hn res _ 0 _ [] _ rfl (Nat.zero_le _) ⟨?_, ?_, ?_, .inl ⟨?_, a1, a2, ?_⟩⟩ ?_ hS₃ rfl ⟨by simp, by simp, by simp, fun j t e => by simp at e⟩ fun h' tk as' c' hk hS' hl hZ => ?_⟩
  · exact (oth _ hS1.2.1.symm).trans hTI
  · exact (D1 A hh).frame _ _ _ st1 fun b hb o e => (oth _ fun q => hS1.2.2.2.2.2.1 (q ▸ hb)).trans e
  · exact (D2 A hh).frame _ _ _ st2 fun b hb o e => (oth _ fun q => hS1.2.2.2.2.2.2 (q ▸ hb)).trans e
  · exact (oth _ hS1.1.symm).trans hz
  · exact (oth _ hS1.2.2.1.symm).trans hTO
  · show lo ≤ ((s.heap.update S0 (Obj.mapSeq (·.push Value.none))).update S0 (Obj.mapSeq (·.pop))).objs.size
    rw [usz]; exact hsz
  · exact hR h' tk as' c' (fun b o b0 b1 b2 b3 b4 e => hk b o b0 b1 b2 b3 b4 ((oth b b0).trans e)) hS' hl hZ
theorem zl_init {R : Result → Shared → Prop} {lo : Nat} {S0 : Addr} (hh : A.handled = none) (S : ZipSep2 z TI TO i1 i2 fp1 fp2) (hlo : z < lo ∧ TI < lo ∧ TO < lo ∧ i1 < lo ∧ i2 < lo) (hS0 : S0 < lo) (hS1 : S0 ≠ z ∧ S0 ≠ TI ∧ S0 ≠ TO ∧ S0 ≠ i1 ∧ S0 ≠ i2 ∧ S0 ∉ fp1 ∧ S0 ∉ fp2) (D1 : ∀ A : Around, A.handled = none → Draws prog w A i1 fp1 n1 P1 St1) (D2 : ∀ A : Around, A.handled = none → Draws prog w A i2 fp2 n2 P2 St2) (hn : min n1 n2 ≤ sizeLine)
    (hz : IsZip s.heap z TI TO .none) (hTI : IsTupOf2 s.heap TI (.ref i1) (.ref i2)) (hTO : ∃ a1 a2, IsTupOf2 s.heap TO a1 a2) (st1 : St1 0 s.heap) (st2 : St2 0 s.heap) (hsz : lo ≤ s.heap.objs.size)
    (hS : s.heap.get? S0 = some { cls := .type "list", data := .seq #[] })
    (hR : ∀ h' tk as' c', (∀ b o, b ≠ S0 → b ≠ z → b ≠ TO → b ≠ i1 → b ≠ i2 → s.heap.get? b = some o → h'.get? b = some o) → h'.get? S0 = some { cls := .type "list", dict := none, data := .seq (as'.map Value.ref).toArray c', slots := #[] } → as'.length = min n1 n2 → ZPs P1 P2 lo h' as' → R (.ok (.ret .none)) { s with heap := h', toks := tk }) :
    wpAny (model prog w) A.in1 (Builtin.«list.__init__» ⟨[.ref S0, .ref z], []⟩)
      (fun fin s' => match fin with | .done f => R (.ok f) s' | .again c' => c'.quiet = true ∧ codeAny (model prog w) A c' R s') (fun e s' => R (.error e) s') s := by
  show wpAny _ A.in1 (do let old ← Builtin.List.listItems (.ref S0); Builtin.List.listUpdate (.ref S0) (fun _ => #[]); letGo old.toList.reverse; Builtin.List.listExtendWith (.ref S0) (.ref z) .none) _ _ s
  refine wpAny_bind ?_
  unfold Builtin.List.listItems
  refine wpAny_bind (wpAny_seqItems hS rfl (wpAny_pure ?_))
  show wpAny _ A.in1 (updateSeq S0 (fun _ => #[]) >>= fun _ => letGo (#[] : Array Value).toList.reverse >>= fun _ => Builtin.List.listExtendWith (.ref S0) (.ref z) .none) _ _ s
  refine wpAny_bind (wpAny_updateSeq hS rfl ?_)
  have hS₂ := Heap.get?_update_self (Obj.mapSeq (fun _ => (#[] : Array Value))) hS rfl
  have oth : ∀ b, b ≠ S0 → (s.heap.update S0 (Obj.mapSeq (fun _ => (#[] : Array Value)))).get? b = s.heap.get? b :=
    fun b hb => Heap.get?_update_other _ _ (Ne.symm hb)
  have usz : (s.heap.update S0 (Obj.mapSeq (fun _ => (#[] : Array Value)))).objs.size = s.heap.objs.size := (Heap.SameBut.update ..).1
  obtain ⟨a1, a2, hTO⟩ := hTO
  refine wpAny_bind (wpAny_letGo ?_)
  refine zl_extend (lo := lo) (s := { s with heap := s.heap.update S0 (Obj.mapSeq (fun _ => (#[] : Array Value))) }) hh S hlo hS0 hS1 D1 D2 hn .none ?_ ?_ ⟨a1, a2, ?_⟩ ?_ ?_ ?_ hS₂ fun h' tk as' c' hk hS' hl hZ => ?_
  · exact (oth _ hS1.1.symm).trans hz
  · exact (oth _ hS1.2.1.symm).trans hTI
  · exact (oth _ hS1.2.2.1.symm).trans hTO
  · exact (D1 A hh).frame _ _ _ st1 fun b hb o e => (oth _ fun q => hS1.2.2.2.2.2.1 (q ▸ hb)).trans e
  · exact (D2 A hh).frame _ _ _ st2 fun b hb o e => (oth _ fun q => hS1.2.2.2.2.2.2 (q ▸ hb)).trans e
  · show lo ≤ (s.heap.update S0 (Obj.mapSeq (fun _ => (#[] : Array Value)))).objs.size
    rw [usz]; exact hsz
  · exact hR h' tk as' c' (fun b o b0 b1 b2 b3 b4 e => hk b o b0 b1 b2 b3 b4 ((oth b b0).trans e)) hS' hl hZ
theorem call_list_zip {Q : Value → Shared → Prop} (hh : A.handled = none) (S : ZipSep2 z TI TO i1 i2 fp1 fp2) (hlo : z < s.heap.objs.size ∧ TI < s.heap.objs.size ∧ TO < s.heap.objs.size ∧ i1 < s.heap.objs.size ∧ i2 < s.heap.objs.size) (hf1 : ∀ b ∈ fp1, b < s.heap.objs.size) (hf2 : ∀ b ∈ fp2, b < s.heap.objs.size) (D1 : ∀ A : Around, A.handled = none → Draws prog w A i1 fp1 n1 P1 St1) (D2 : ∀ A : Around, A.handled = none → Draws prog w A i2 fp2 n2 P2 St2) (hn : min n1 n2 ≤ sizeLine)
    (hz : IsZip s.heap z TI TO .none) (hTI : IsTupOf2 s.heap TI (.ref i1) (.ref i2)) (hTO : ∃ a1 a2, IsTupOf2 s.heap TO a1 a2) (st1 : St1 0 s.heap) (st2 : St2 0 s.heap)
    (hQ : ∀ h' tk as c, (∀ b o, b ≠ z → b ≠ TO → b ≠ i1 → b ≠ i2 → s.heap.get? b = some o → h'.get? b = some o) → h'.get? s.heap.objs.size = some { cls := .type "list", dict := none, data := .seq (as.map Value.ref).toArray c, slots := #[] } → as.length = min n1 n2 → ZPs P1 P2 (s.heap.objs.size + 1) h' as → Q (.ref s.heap.objs.size) { s with heap := h', toks := tk }) :
    wpAny (model prog w) A (call (.type "list") [.ref z]) Q E s := by
  refine callType_codes (Q₁ := fun obj s₁ => obj = .ref s.heap.objs.size ∧ s₁ = { s with heap := s.heap.push { cls := .type "list", data := .seq #[] } }) F.called_list (F.typeCall_list_1 _) F.entry_list_init
    (code_list_new _ ⟨rfl, rfl⟩) fun obj s₁ h₁ => ?_
  obtain ⟨rfl, rfl⟩ := h₁
  have hS : (s.heap.push { cls := .type "list", data := .seq #[] }).get? s.heap.objs.size = some { cls := .type "list", data := .seq #[] } := Heap.get?_push_size _ rfl
  have psh : ∀ b o, s.heap.get? b = some o → (s.heap.push { cls := .type "list", data := .seq #[] }).get? b = some o := fun b o e => Heap.get?_push_of_some _ e
  have psz : (s.heap.push { cls := .type "list", data := .seq #[] }).objs.size = s.heap.objs.size + 1 := Heap.size_push ..
  obtain ⟨l1, l2, l3, l4, l5⟩ := hlo
  obtain ⟨a1, a2, hTO⟩ := hTO
  refine ⟨⟨_, hS, rfl⟩, F.args_list_init_2 _ _, zl_init (A := A.in1) (lo := s.heap.objs.size + 1) (s := { s with heap := s.heap.push { cls := .type "list", data := .seq #[] } }) hh S ⟨Nat.lt_succ_of_lt l1, Nat.lt_succ_of_lt l2, Nat.lt_succ_of_lt l3, Nat.lt_succ_of_lt l4, Nat.lt_succ_of_lt l5⟩ (Nat.lt_succ_self _) ⟨Nat.ne_of_gt l1, Nat.ne_of_gt l2, Nat.ne_of_gt l3, Nat.ne_of_gt l4, Nat.ne_of_gt l5, fun hm => Nat.lt_irrefl _ (hf1 _ hm), fun hm => Nat.lt_irrefl _ (hf2 _ hm)⟩ D1 D2 hn (psh _ _ hz) (psh _ _ hTI) ⟨a1, a2, psh _ _ hTO⟩ ((D1 A hh).frame _ _ _ st1 fun b _ o e => psh b o e) ((D2 A hh).frame _ _ _ st2 fun b _ o e => psh b o e) (Nat.le_of_eq psz.symm) hS fun h' tk as c hk hS' hl hZ => ?_⟩
  exact ⟨rfl, hQ h' tk as c (fun b o b1 b2 b3 b4 e => hk b o (Nat.ne_of_lt (Heap.lt_size e)) b1 b2 b3 b4 (psh b o e)) hS' hl hZ⟩
end
end DL

/-! part twenty-eight: list(zip(a, b)) as an expression -/
namespace DL
open PySem PySem.Spec L2 PyProof.Rows LiI
/-- the tuples tracked at their addresses -/
def putZ : Hp → List Addr → List (V × V) → Hp
  | H, a :: as, p :: kvs => putZ (upd H a (.tup [p.1, p.2])) as kvs
  | H, _, _ => H
theorem putZ_off {b : Addr} : ∀ (as : List Addr) (kvs : List (V × V)) (H : Hp), b ∉ as → putZ H as kvs b = H b
  | [], _, _, _ => rfl
  | _ :: _, [], _, _ => rfl
  | a :: as, p :: kvs, H, h => by
    show putZ (upd H a (.tup [p.1, p.2])) as kvs b = H b
    rw [putZ_off as kvs _ (fun z => h (List.mem_cons_of_mem _ z)), upd_ne (fun z => h (by rw [z]; exact List.mem_cons_self))]
theorem putZ_at : ∀ (as : List Addr) (kvs : List (V × V)) (H : Hp), as.length = kvs.length → as.Nodup → Paired (fun (t : Addr) (p : V × V) => putZ H as kvs t = some (.tup [p.1, p.2])) as kvs
  | [], [], _, _, _ => .nil
  | [], _ :: _, _, h, _ => by cases h
  | _ :: _, [], _, h, _ => by cases h
  | a :: as, p :: kvs, H, h, hn => by
    have hn' := List.nodup_cons.mp hn
    have ih := putZ_at as kvs (upd H a (.tup [p.1, p.2])) (Nat.succ.inj h) hn'.2
    refine .cons ?_ ih
    show putZ (upd H a (.tup [p.1, p.2])) as kvs a = some (.tup [p.1, p.2])
    rw [putZ_off as kvs _ hn'.1, upd_same]
def rLzip (K : PySem.W.Frag) : List V → Hp → VK → Prop := fun xs H Q => ∃ (a b : Addr) (l m : List V), xs = [.ref a, .ref b] ∧ (SqL K H a l ∨ SqT K H a l) ∧ (SqL K H b m ∨ SqT K H b m) ∧
  ∀ (H' : Hp) (p : Addr) (as : List Addr), (∀ b o, H b = some o → H' b = some o) → H p = none → (∀ t ∈ as, H t = none) → p ∉ as → (∀ b, b ∉ as → b ≠ p → H' b = H b) → H' p = some (.lst (as.map V.ref)) → Paired (fun (t : Addr) (q : V × V) => H' t = some (.tup [q.1, q.2])) as (l.zip m) → Q (.ref p) H'
section
variable {X : Cx}
/-- how a source begins, what it draws -/
structure Src (prog : Program) (w : World) (h : Heap) (v : Value) (its : List Value) : Prop where
  ex : ∃ (a : Addr) (o : Obj) (H : Heap → Prop) (St : Addr → Nat → Heap → Prop), v = .ref a ∧ a < h.objs.size ∧ Begins v o H ∧ H h ∧
    (∀ I, a ≠ I → ∀ A : Around, A.handled = none → Draws prog w A I [I, a] its.length (fun i x => its[i]? = some x) (St I)) ∧ ∀ I h', h'.get? I = some o → (∀ b u, h.get? b = some u → h'.get? b = some u) → St I 0 h'
theorem src_of {pins : List (Addr × Obj)} {σ : L2.St} {H : Hp} {s : Shared} {a : Addr} {l : List V} (I : L2.Inv X pins σ H s) (h : SqL X.K H a l ∨ SqT X.K H a l) : ∃ its, Vals l its ∧ its.length ≤ sizeLine ∧ Src X.prog X.w s.heap (.ref a) its := by
  rcases h with h | h
  · obtain ⟨its, rv, p, hz⟩ := I.list h
    have hl := rv.length
    refine ⟨its, rv, by omega, ⟨a, _, _, fun I i h => h.IsListIter I a i ∧ h.IsList a its.toArray, rfl, p.lt, begins_list a its.toArray, p.isList, fun J hJ A hh => ?_, fun J h' e k => ⟨⟨_, e, rfl, rfl⟩, p.isList.at fun o q => k a o q⟩⟩⟩
    have D := Draws.list (prog := X.prog) (w := X.w) hh J a hJ its.toArray
    simpa using D
  · obtain ⟨its, rv, p, hz⟩ := I.tuple h
    have hl := rv.length
    obtain ⟨ot, hot, _⟩ := id p
    refine ⟨its, rv, by omega, ⟨a, _, _, fun I i h => h.IsTupleIter I a i ∧ h.IsTuple a its.toArray, rfl, Heap.lt_size hot, begins_tuple a its.toArray, p, fun J hJ A hh => ?_, fun J h' e k => ⟨⟨_, e, rfl, rfl⟩, (show s.heap.IsTuple a its.toArray from p).at fun o q => k a o q⟩⟩⟩
    have D := Draws.tuple (prog := X.prog) (w := X.w) hh J a hJ its.toArray
    simpa using D
theorem zip_laid {pins : List (Addr × Obj)} {σ : L2.St} {H : Hp} {s : Shared} {h' : Heap} {tk c : Nat} {l m : List V} {xs ys : List Value} {as : List Addr} {S0 lo : Nat} (I : L2.Inv X pins σ H s) (rx : Vals l xs) (ry : Vals m ys) (hz : as.length ≤ sizeLine) (h0 : s.heap.objs.size ≤ S0) (h1 : S0 < lo)
    (hk : ∀ b o, s.heap.get? b = some o → h'.get? b = some o) (hS : h'.get? S0 = some { cls := .type "list", dict := none, data := .seq (as.map Value.ref).toArray c, slots := #[] }) (hl : as.length = min xs.length ys.length) (hZ : ZPs (fun i x => xs[i]? = some x) (fun i x => ys[i]? = some x) lo h' as) :
    ∃ H' : Hp, (∀ b o, H b = some o → H' b = some o) ∧ H S0 = none ∧ (∀ t ∈ as, H t = none) ∧ S0 ∉ as ∧ (∀ b, b ∉ as → b ≠ S0 → H' b = H b) ∧ H' S0 = some (.lst (as.map V.ref)) ∧ Paired (fun (t : Addr) (q : V × V) => H' t = some (.tup [q.1, q.2])) as (l.zip m) ∧ L2.Inv X pins σ H' { s with heap := h', toks := tk } := by
  have lx := rx.length
  have ly := ry.length
  have hSn : S0 ∉ as := fun z => absurd (hZ.lo _ z) (Nat.not_le.mpr h1)
  have nd : as.Nodup := List.Pairwise.imp (fun {a b} (h : a < b) => Nat.ne_of_lt h) hZ.rise
  have new : ∀ t ∈ as, H t = none := fun t ht => I.hok.fresh (Nat.le_trans h0 (Nat.le_trans (Nat.le_of_lt h1) (hZ.lo t ht)))
  have newS : H S0 = none := I.hok.fresh h0
  have lz : as.length = (l.zip m).length := by rw [List.length_zip, hl]; omega
  have atP := putZ_at as (l.zip m) (upd H S0 (.lst (as.map V.ref))) lz nd
  have off : ∀ b, b ∉ as → b ≠ S0 → putZ (upd H S0 (.lst (as.map V.ref))) as (l.zip m) b = H b := fun b h1 h2 => by rw [putZ_off as _ _ h1, upd_ne h2]
  have low : ∀ b o, s.heap.get? b = some o → b ∉ as ∧ b ≠ S0 := fun b o e => ⟨fun z => absurd (Heap.lt_size e) (Nat.not_lt.mpr (Nat.le_trans h0 (Nat.le_trans (Nat.le_of_lt h1) (hZ.lo b z)))), Nat.ne_of_lt (Nat.lt_of_lt_of_le (Heap.lt_size e) h0)⟩
  have kp : ∀ b u, H b = some u → (putZ (upd H S0 (.lst (as.map V.ref))) as (l.zip m)) b = some u := fun b u e => by
    rw [off b (fun z => by rw [new b z] at e; cases e) (fun z => by rw [z, newS] at e; cases e)]
    exact e
  have eS : putZ (upd H S0 (.lst (as.map V.ref))) as (l.zip m) S0 = some (.lst (as.map V.ref)) := by rw [putZ_off as _ _ hSn, upd_same]
  refine ⟨putZ (upd H S0 (.lst (as.map V.ref))) as (l.zip m), kp, newS, new, hSn, off, eS, atP, ?_⟩
  refine I.call' (ch := []) rfl ⟨fun b o q _ _ _ => hk b o q, fun b o q _ _ _ => ⟨o.slots, hk b o q⟩, fun b o q n _ => ?_, fun b o q _ => ⟨o, hk b o q⟩, fun b xs q => kp b _ q, fun b o u q => kp b _ q, fun b ps q => ⟨#[], by rw [kp b _ q]; simp⟩⟩ (fun b u q => ?_) I.bare fun b z => by simp at z
  · obtain ⟨z1, z2⟩ := low b o q
    rw [off b z1 z2]
    exact n
  · by_cases hb : b ∈ as
    · obtain ⟨j, pk, e1, e2, e3⟩ := paired_ix atP hb
      rw [e3] at q
      cases q
      obtain ⟨x, y, f1, f2, f3⟩ := hZ.pairs j b e1
      rw [List.getElem?_zip_eq_some] at e2
      obtain ⟨ux, g1, g2⟩ := rx.get e2.1
      obtain ⟨uy, g3, g4⟩ := ry.get e2.2
      have f1 : xs[j]? = some x := f1
      have f2 : ys[j]? = some y := f2
      rw [g1] at f1
      rw [g3] at f2
      cases f1
      cases f2
      exact ⟨by show 2 ≤ sizeLine; decide, [x, y], .cons g2 (.cons g4 .nil), ⟨_, f3, rfl, _, rfl⟩⟩
    · by_cases hb2 : b = S0
      · rw [hb2] at q ⊢
        rw [eS] at q
        cases q
        exact ⟨by rw [List.length_map]; exact hz, as.map Value.ref, c, vals_refs as, hS⟩
      · rw [off b hb hb2] at q
        exact (I.hok b u q).stay (fun d v _ y => hk d v y) (fun d y => kp d _ y) fun d xs y => kp d _ y
theorem zsep (n a b : Nat) (ha : a < n) (hb : b < n) : ZipSep2 (n + 4) (n + 2) (n + 3) n (n + 1) [n, a] [n + 1, b] := by
  have m2 : ∀ {x y z : Nat}, x ≠ y → x ≠ z → ¬ x ∈ ([y, z] : List Addr) := fun h1 h2 h => by
    rcases List.mem_cons.mp h with h | h
    · exact h1 h
    · exact h2 (List.mem_singleton.mp h)
  exact ⟨by show (n + 2 : Nat) ≠ n + 4; omega, by show (n + 3 : Nat) ≠ n + 4; omega, by show (n + 2 : Nat) ≠ n + 3; omega, by show (n + 2 : Nat) ≠ n; omega, by simp, m2 (by omega) (by omega), m2 (by omega) (by omega), by show (n + 2 : Nat) ≠ n + 1; omega, by simp, m2 (by omega) (by omega), m2 (by omega) (by omega), m2 (by omega) (by omega), m2 (by omega) (by omega)⟩
theorem pe_lzip {e e2 : Expr} {ta : TA} {p p2 pos pos2 : Pos} (hc : X.calm = true) (hgl : Gl X "list") (hml : X.mg "list" = none) (hg : Gl X "zip") (hm : X.mg "zip" = none) (ha : PA X [e, e2] ta)
    (hs : starEach [e, e2] X.env = (false, eval e X.env) :: starEach [e2] X.env) (hpl : (backTo pos2 (starEach [e2] X.env)).any (·.1) = false)
    (hs2 : starEach [.Call (.Name "zip" p2) [e, e2] [] pos2] X.env = (false, eval (.Call (.Name "zip" p2) [e, e2] [] pos2) X.env) :: starEach [] X.env) :
    PE X (.Call (.Name "list" p) [.Call (.Name "zip" p2) [e, e2] [] pos2] [] pos) (fun σ H Q => ta σ H fun vs H1 => rLzip X.K vs H1 Q) := by
  refine ⟨fun pins s σ H Q I hq => ?_⟩
  refine wpAny_Call_Name_kw (ld_blt I hgl hml PyProof.Rows.boot_list ?_)
  refine PyProof.Rows.callWith_type1 ?_ hs2 rfl
  rw [hs2]
  show wpAny _ _ (spliced ((false, eval (.Call (.Name "zip" p2) [e, e2] [] pos2) X.env) :: backTo pos (starEach [] X.env))) _ _ s
  refine Calls.spliced_cons ?_
  refine Call_ (ld_blt I hg hm PyProof.Rows.boot_zip (PyProof.Rows.callWith_type1 (thn (ha.run pos2 pins s σ H _ I hq) fun us s1 ⟨vs, H1, I1, r1, q1⟩ => ?_) hs hpl))
  obtain ⟨a, b, l, m, ex, hl, hm', q1⟩ := q1
  subst ex
  cases r1 with
  | cons r rr =>
    cases rr with
    | cons r' rr =>
      cases rr
      cases r
      cases r'
      obtain ⟨xs, rx, zx, ⟨a', o1, T1, St1, ea, la, B1, b1, D1, S1⟩⟩ := src_of I1 hl
      obtain ⟨ys, ry, zy, ⟨b', o2, T2, St2, eb, lb, B2, b2, D2, S2⟩⟩ := src_of I1 hm'
      cases ea
      cases eb
      refine zip_begins2 B1 B2 b1 b2 fun h' hz hTI hTO g1 g2 hsz hk => ?_
      refine Calls.spliced_nil ?_
      have sep := zsep s1.heap.objs.size a b la lb
      have I2 : L2.Inv X pins σ H1 { s1 with heap := h' } := I1.kept (t' := s1.toks) hk
      refine call_list_zip (s := { s1 with heap := h' }) (I1.ok.hd hc) sep ⟨by show _ < h'.objs.size; omega, by show _ < h'.objs.size; omega, by show _ < h'.objs.size; omega, by show _ < h'.objs.size; omega, by show _ < h'.objs.size; omega⟩ (fun c hc => ?_) (fun c hc => ?_) (D1 _ (Nat.ne_of_lt la)) (D2 _ (Nat.ne_of_lt (Nat.lt_succ_of_lt lb))) (by omega) hz hTI ⟨_, _, hTO⟩ (S1 _ _ g1 hk) (S2 _ _ g2 hk) fun h2 tk as c hk2 hS hlen hZ => ?_
      · show c < h'.objs.size
        rcases List.mem_cons.mp hc with z | z
        · rw [z]; show (s1.heap.objs.size : Nat) < h'.objs.size; omega
        · rw [List.mem_singleton.mp z]; exact Nat.lt_of_lt_of_le la (by omega)
      · show c < h'.objs.size
        rcases List.mem_cons.mp hc with z | z
        · rw [z]; show (s1.heap.objs.size + 1 : Nat) < h'.objs.size; omega
        · rw [List.mem_singleton.mp z]; exact Nat.lt_of_lt_of_le lb (by omega)
      · have ne : ∀ {t n : Nat}, t < s1.heap.objs.size → t ≠ s1.heap.objs.size + n := fun h => by omega
        obtain ⟨H', k1, k2, k3, k4, k5, k6, k7, J⟩ := zip_laid (tk := tk) (s := s1) (h' := h2) (lo := h'.objs.size + 1) I1 rx ry (by omega) (by omega) (Nat.lt_succ_self _) (fun b o e => hk2 b o (ne (Heap.lt_size e)) (ne (Heap.lt_size e)) (ne (n := 0) (Heap.lt_size e)) (ne (Heap.lt_size e)) (hk b o e)) hS hlen hZ
        exact ⟨.ref _, H', J, rfl, q1 H' _ as k1 k2 k3 k4 k5 k6 k7⟩
end
def lzipD (a b : D) : Mo D := match rowD a, rowD b with
  | some l, some m => need (zipOk l m = true) (ret (.lst (List.zipWith (fun x y => .tup [x, y]) l m)))
  | _, _ => stop
theorem RpL.paired {K : PySem.W.Frag} {dk : DkT} {H H' : Hp} {A B : Addr → Prop} (mo : ∀ {v : V} {d : D}, Rp K dk H A v d → Rp K dk H' B v d) : ∀ {as : List Addr} {l m : List V} {ds es : List D}, RpL K dk H A l ds → RpL K dk H A m es → (∀ (i : Nat) (x y : D), ds[i]? = some x → es[i]? = some y → tupsB [x, y] = false) → Paired (fun (t : Addr) (q : V × V) => H' t = some (.tup [q.1, q.2])) as (l.zip m) → RpL K dk H' B (as.map V.ref) (List.zipWith (fun x y => .tup [x, y]) ds es)
  | _, _, _, _, _, .nil, r2, _, p => by cases p; exact .nil
  | _, _, _, _, _, .cons _ _, .nil, _, p => by cases p; exact .nil
  | _, _, _, _, _, .cons r1 t1, .cons r2 t2, hn, p => by
    cases p with
    | cons h t =>
      exact .cons (.tup (SqT.of h) (.cons (mo r1) (.cons (mo r2) .nil)) fun e => by rw [hn 0 _ _ rfl rfl] at e; cases e) (RpL.paired mo t1 t2 (fun i x y h1 h2 => hn (i + 1) x y h1 h2) t)
section
variable {P : Program} {w : World} {base : Heap} {k : Nat} {N : List Str} {sc : Scope} {X : Cx} {c : Cn} {pos pos2 p p2 : Pos} {e e2 : Expr} {te tf : DE} {me mf : Md}
theorem e_lzip (G : Gd P w base k N sc X c) (hgl : glB sc "list" = true) (hml : c.mg "list" = none) (hg : glB sc "zip" = true) (hm : c.mg "zip" = none) (he : PE X e (tX c me te)) (hf : PE X e2 (tX c mf tf)) (hs : starEach [e, e2] X.env = (false, eval e X.env) :: starEach [e2] X.env) (hsb : starEach [e2] X.env = [(false, eval e2 X.env)]) (hpl : (backTo pos2 (starEach [e2] X.env)).any (·.1) = false)
    (hs2 : starEach [.Call (.Name "zip" p2) [e, e2] [] pos2] X.env = (false, eval (.Call (.Name "zip" p2) [e, e2] [] pos2) X.env) :: starEach [] X.env) :
    PE X (.Call (.Name "list" p) [.Call (.Name "zip" p2) [e, e2] [] pos2] [] pos) (tX c .f (bin2 te tf lzipD)) := by
  refine PE.imp (pe_lzip G.calm (G.gl (glB_of hgl).1) (by rw [G.mg]; exact hml) (G.gl (glB_of hg).1) (by rw [G.mg]; exact hm) (pa_cons he (pa_cons hf pa_nil hsb) hs) hs hpl hs2) fun σ H Q q => ?_
  refine op2_tX (md := .f) (r2 := fun x y H Q => rLzip X.K [x, y] H Q) ?_ q
  intro own env n σ H0 H1 H x y a b Q R ra rb g
  unfold lzipD at g
  split at g
  · rename_i l m hl hm
    obtain ⟨ok, g⟩ := g.need'
    obtain ⟨p1, xs, ex, h1, r1⟩ := Rw.row (R.weak ra) hl
    obtain ⟨p2, ys, ey, h2, r2⟩ := Rw.row (R.weak rb) hm
    subst ex
    subst ey
    rw [G.K]
    refine ⟨p1, p2, xs, ys, rfl, h1, h2, fun H' q as k1 k2 k3 k4 k5 k6 k7 => ?_⟩
    have nd : ¬ IsDk c.dk q := fun e => by
      obtain ⟨_, h'⟩ := R.vi.lst e
      rw [k2] at h'; cases h'
    have ext : Ext c.dk H H' := fun z o h => .inr (k1 z o h)
    have vi' : VI c.K c.dk n H' := R.vi.on fun z hz => k5 z (fun h => by
      obtain ⟨_, h'⟩ := R.vi.lst hz
      rw [k3 z h] at h'; cases h') (fun h => nd (h ▸ hz))
    obtain ⟨Qd, q1, q2⟩ := g
    refine q2 _ n (.ref q) H' q1 ext vi' ⟨q, rfl, k2, nd, R.notAV k2, as.map V.ref, k6, ?_⟩
    refine RpL.paired (fun {v d} h => ?_) r1 r2 (fun i x y h1 h2 => zipOk_no ok h1 h2) k7
    exact (h.more k2).ext R.vi (fun _ z => .inl (AV.deck z)) ext
  · exact g.stop'.elim
end
end DL

/-! part twenty-nine: sorted(d.items()) as an expression -/
namespace DL
open PySem PySem.Spec L2 PyProof.Rows LiI
def kDt : Key → D
  | .inl i => .int i
  | .inr s => .str s
def kOk : Key → Bool
  | .inl _ => true
  | .inr s => PyData.strOk s
def itL (ks : List Key) (vs : List D) : List D := List.zipWith (fun k v => .tup [kDt k, v]) ks vs
def sortID (a : D) : Mo D := match a with
  | .dct ks vs => need (srtOk (itL ks vs) = true ∧ ks.all kOk = true) (ret (.lst ((itL ks vs).mergeSort leDT)))
  | _ => stop
theorem kDt_rp {K : PySem.W.Frag} {dk : DkT} {H : Hp} {A : Addr → Prop} {k : Key} (h : kOk k = true) : Rp K dk H A (kV k) (kDt k) := by
  cases k with
  | inl i => exact .int i
  | inr s => exact .str h
theorem kDt_no (k : Key) (v : D) : tupsB [kDt k, v] = false := by
  cases k <;> rfl
theorem items_rp {K : PySem.W.Frag} {dk : DkT} {H H' : Hp} {A B : Addr → Prop} (mo : ∀ {v : V} {d : D}, Rp K dk H A v d → Rp K dk H' B v d) : ∀ {as : List Addr} {kvs : List (Key × V)} {ds : List D}, RpL K dk H A (kvs.map (·.2)) ds → (kvs.map (·.1)).all kOk = true → Paired (fun (t : Addr) (q : Key × V) => H' t = some (.tup [kV q.1, q.2])) as kvs → Paired (fun (t : Addr) (e : D) => Rp K dk H' B (.ref t) e) as (itL (kvs.map (·.1)) ds)
  | _, [], _, .nil, _, p => by cases p; exact .nil
  | _, q :: kvs, _, .cons r t, h, p => by
    simp only [List.map_cons, List.all_cons, Bool.and_eq_true] at h
    cases p with
    | cons e f => exact .cons (.tup (SqT.of e) (.cons (kDt_rp h.1) (.cons (mo r) .nil)) fun z => by rw [kDt_no] at z; cases z) (items_rp mo t h.2 f)
theorem Paired.mono' {α β : Type} {F G : α → β → Prop} (h : ∀ a b, b ∈ ([] : List β) ∨ F a b → G a b) : ∀ {xs : List α} {ys : List β}, Paired F xs ys → Paired G xs ys
  | _, _, .nil => .nil
  | _, _, .cons a t => .cons (h _ _ (.inr a)) (Paired.mono' h t)
theorem paired_dp {K : PySem.W.Frag} {dk : DkT} {H : Hp} {A : Addr → Prop} : ∀ {as : List Addr} {ds : List D}, Paired (fun (t : Addr) (e : D) => Rp K dk H A (.ref t) e) as ds → (∀ d ∈ ds, okD d = true) → Paired (fun (t : Addr) (e : D) => Dp K H (.ref t) (py e)) as ds
  | _, _, .nil, _ => .nil
  | _, _, .cons r t, h => .cons (Rp.dp (h _ List.mem_cons_self) r).1 (paired_dp t fun d hd => h d (List.mem_cons_of_mem _ hd))
theorem paired_mem {α β : Type} {F : α → β → Prop} : ∀ {xs : List α} {ys : List β}, Paired F xs ys → ∀ p ∈ xs.zip ys, F p.1 p.2
  | _, _, .nil, _, h => by cases h
  | _, _, .cons a t, p, h => by
    rcases List.mem_cons.mp h with z | z
    · rw [z]; exact a
    · exact paired_mem t p z
section
variable {P : Program} {w : World} {base : Heap} {k : Nat} {N : List Str} {sc : Scope} {X : Cx} {c : Cn} {pos apos cpos p : Pos} {e : Expr} {te : DE} {me : Md}
theorem e_sortI (G : Gd P w base k N sc X c) (hg : glB sc "sorted" = true) (hm : c.mg "sorted" = none) (he : PE X e (tX c me te)) (hbase : attributeBase e "items" X.env (eval e X.env) = eval e X.env) (hline : (apos.endLine == cpos.line) = true)
    (hs : starEach [.Call (.Attribute e "items" apos) [] [] cpos] X.env = (false, eval (.Call (.Attribute e "items" apos) [] [] cpos) X.env) :: starEach [] X.env) :
    PE X (.Call (.Name "sorted" p) [.Call (.Attribute e "items" apos) [] [] cpos] [] pos) (tX c .f (un1 te sortID)) := by
  refine ⟨fun pins s σ H Q I q => (pe_callB (cr_sortI (I.ok.hd G.calm) (by have := G.hu; omega)) (G.gl (glB_of hg).1) (by rw [G.mg]; exact hm) (by decide +kernel) (pa_cons (pe_items he hbase hline) pa_nil hs) (glB_of hg).2.2 (glB_of hg).2.1 hs rfl).run pins s σ H Q I ?_⟩
  refine op1_tX (md := .f) (r := fun x H Q => rItems x H fun x' H' => rSortI X.K [x'] H' Q) ?_ q
  intro own env n σ H0 H x a Q R ra g
  have wa := R.weak ra
  unfold sortID at g
  split at g
  · rename_i ks vs
    obtain ⟨⟨hok, hks⟩, g⟩ := g.need'
    obtain ⟨d, kvs, e1, nd, h1, h2, r⟩ := wa
    subst e1 h2
    refine ⟨d, kvs, rfl, h1, fun r0 hr0 => ?_⟩
    rw [G.K]
    have ex1 : Ext c.dk H (upd H r0 (ViewO r0 d)) := Ext.new hr0
    have dl : d ≠ r0 := fun z => by
      subst z
      rcases h1 with h1 | ⟨o, h1⟩
      · rw [hr0] at h1; cases h1
      · rw [hr0] at h1; cases h1
    have lds : (itL (kvs.map (·.1)) vs).length = kvs.length := by
      unfold itL
      rw [List.length_zipWith, ← r.length]; simp
    have okd : ∀ d ∈ itL (kvs.map (·.1)) vs, okD d = true := fun d hd => by
      simp only [srtOk, Bool.and_eq_true] at hok
      exact cmpOk_ok (List.all_eq_true.mp hok.1.1 d hd)
    refine ⟨r0, d, kvs, itL (kvs.map (·.1)) vs, rfl, upd_same, Rd.ext' ex1 nd h1, lds, hok, fun H' as kp pr => ?_, fun H' q as kp k3 k5 k7 k2 => ?_⟩
    · have ext : Ext c.dk H H' := ex1.trans fun z o h => .inr (kp z o h)
      exact paired_dp (items_rp (H := H) (dk := c.dk) (A := AV c own) (B := AV c own) (fun h => h.ext R.vi (fun _ z => AV.deck z) ext) r hks pr) okd
    · have ext0 : Ext c.dk (upd H r0 (ViewO r0 d)) H' := fun z o h => .inr (kp z o h)
      have ext : Ext c.dk H H' := ex1.trans ext0
      have vi1 : VI c.K c.dk n (upd H r0 (ViewO r0 d)) := R.vi.new hr0
      have vi' : VI c.K c.dk n H' := vi1.on fun z hz => k5 z (fun h => by
        obtain ⟨_, h'⟩ := vi1.lst hz
        rw [k3 z h] at h'; cases h')
      have R' := R.go ext vi'
      have em : (itL (kvs.map (·.1)) vs).mergeSort leDT = ((as.zip (itL (kvs.map (·.1)) vs)).mergeSort fun x y => leDT x.2 y.2).map (·.2) := by
        have e0 : as.length = (itL (kvs.map (·.1)) vs).length := by
          rw [lds]; exact Paired.length k7
        rw [List.map_mergeSort (f := fun z : Addr × D => z.2) (r := fun x y => leDT x.2 y.2) (s := leDT) fun a _ b _ => rfl, List.map_snd_zip (by omega)]
      rw [em] at g
      have pr := items_rp (H := H) (dk := c.dk) (A := AV c own) (B := AV c own) (fun h => h.ext R.vi (fun _ z => AV.deck z) ext) r hks k7
      obtain ⟨Qd, q1, q2⟩ := g
      have g' : Go c own env H' n .f (ret (.lst (((as.zip (itL (kvs.map (·.1)) vs)).mergeSort fun x y => leDT x.2 y.2).map (·.2)))) Q := ⟨Qd, q1, fun d2 n2 v2 H2 z1 z2 z3 z4 => q2 d2 n2 v2 H2 z1 (ext.trans z2) z3 (z4.back vi' ext)⟩
      refine g'.newL R' k2 ?_
      have hall : ∀ z ∈ (as.zip (itL (kvs.map (·.1)) vs)).mergeSort fun x y => leDT x.2 y.2, Rp c.K c.dk H' (AV c own) (.ref z.1) z.2 := fun z hz => paired_mem pr z ((List.mergeSort_perm _ _).mem_iff.mp hz)
      have := pairs_rpl (K := c.K) (dk := c.dk) (H := H') (A := AV c own) (ks := ((as.zip (itL (kvs.map (·.1)) vs)).mergeSort fun x y => leDT x.2 y.2).map fun z => (V.ref z.1, z.2)) (fun z hz => by
        obtain ⟨y, hy, rfl⟩ := List.mem_map.mp hz
        exact hall y hy)
      rw [List.map_map, List.map_map] at this
      exact this
  · exact g.stop'.elim
end
end DL

/-! part thirty: min(list), min(list, key=len) -/
namespace DL
open PySem PySem.Spec L2 PyProof.Rows PySem.W
def minOk (l : List D) : Bool := l.all cmpOk && alkB l && l.all (fun a => !isNo a)
def minL (x : D) (xs : List D) : D := xs.foldl (fun a y => if dataLt (py y) (py a) = true then y else a) x
def minDD (a : D) : Mo D := match a with
  | .lst (x :: xs) => need (minOk (x :: xs) = true) (ret (minL x xs))
  | _ => stop
def rMinDat (K : PySem.W.Frag) : List V → Hp → VK → Prop := fun vs H Q => ∃ (a : Addr) (xs : List V) (y : D) (ds : List D), vs = [.ref a] ∧ SqL K H a xs ∧ DpAll K H xs (pyL (y :: ds)) ∧ minOk (y :: ds) = true ∧ ∀ (i : Nat) v, xs[i]? = some v → (y :: ds)[i]? = some (minL y ds) → Q v H
theorem getD_py (l : List D) (i : Nat) : (pyL l).getD i .none = py (l.getD i .non) := by
  rw [pyL_map, List.getD_eq_getElem?_getD, List.getD_eq_getElem?_getD, List.getElem?_map]
  cases l[i]? <;> rfl
theorem minOk_alike {l : List D} (h : minOk l = true) : AlikeAll (pyL l) := by
  simp only [minOk, Bool.and_eq_true] at h
  rw [pyL_map]
  refine ⟨fun x hx y hy => ?_, fun x hx => ?_⟩
  · obtain ⟨a, ha, rfl⟩ := List.mem_map.mp hx
    obtain ⟨b, hb, rfl⟩ := List.mem_map.mp hy
    exact List.all_eq_true.mp (List.all_eq_true.mp h.1.2 a ha) b hb
  · obtain ⟨a, ha, rfl⟩ := List.mem_map.mp hx
    have h2 := List.all_eq_true.mp h.2 a ha
    have h3 := cmpOk_ok (List.all_eq_true.mp h.1.1 a ha)
    cases a with
    | non => cases h2
    | dct _ _ => cases h3
    | deck => cases h3
    | obj _ => cases h3
    | _ => exact fun z => PyData.noConfusion z
theorem cmp_dep : ∀ {l : List D}, l.all cmpOk = true → PyData.depthAll (pyL l) ≤ 60
  | [], _ => Nat.zero_le _
  | d :: l, h => by
    rw [List.all_cons, Bool.and_eq_true] at h
    have h1 := cmpOk_dep h.1
    have h2 := cmp_dep h.2
    show max (py d).depth (PyData.depthAll (pyL l)) ≤ 60
    omega
theorem minOk_dep {l : List D} (h : minOk l = true) : PyData.depthAll (pyL l) ≤ 60 := by
  simp only [minOk, Bool.and_eq_true] at h
  exact cmp_dep h.1.1
section
variable {X : Cx}
theorem cr_minDat (hc : X.A.handled = none) (hu : X.A.units + 100 < cLine) : CallR X (.builtin "min") (rMinDat X.K) := by
  intro pins s σ H vs us Q I r h
  obtain ⟨a, xs, y, ds, rfl, hs, hd, hok, q⟩ := h
  rw [Vals.ref1 r]
  obtain ⟨its, rv, pl, hz⟩ := I.list hs
  obtain ⟨as, hr⟩ := Dp.readsAll I _ _ its hd rv
  have hn : its.length = ds.length + 1 := by
    have h2 := readsAll_len (vs := its.toArray) (xs := pyL (y :: ds)) (by simpa using hr)
    simpa [pyL_map] using h2
  have hdep := minOk_dep hok
  refine call_min_walkH (iter_listW (A := X.A.in1) hc pl.isList fun s₂ e W st hfp hw hk => ?_)
  refine ⟨_, _, _, _, _, _, _, s.heap, _, rfl, W, st, hfp, by simp; omega, hw, hk, cmpIn_lt (A := X.A.in1) (vs := its.toArray) (by simpa using hr) (minOk_alike hok) (by show X.A.units + 1 + _ < _; omega), fun v s' hP m => ?_⟩
  obtain ⟨h', tk, rfl, hk'⟩ := moved_old e rfl m
  have eb : (fun i j : Nat => dataLt ((pyL (y :: ds)).getD i PyData.none) ((pyL (y :: ds)).getD j PyData.none)) = fun i j => (fun a b : D => dataLt (py a) (py b)) ((y :: ds).getD i .non) ((y :: ds).getD j .non) := by
    funext i j
    rw [getD_py, getD_py]
  rw [eb] at hP
  have e1 : its.toArray.size - 1 = ds.length := by simp; omega
  rw [e1] at hP
  obtain ⟨i1, e2⟩ := argBest_fold (fun a b : D => dataLt (py a) (py b)) D.non y ds ds.length (Nat.le_refl _)
  rw [List.take_length] at e2
  generalize argBest (fun i j => (fun a b : D => dataLt (py a) (py b)) ((y :: ds).getD i .non) ((y :: ds).getD j .non)) ds.length = k at hP i1 e2
  have hP : its[k]? = some v := by simpa using hP
  have lx : xs.length = its.length := rv.length
  obtain ⟨x, hx⟩ : ∃ x, xs[k]? = some x := ⟨xs[k]'(by omega), List.getElem?_eq_getElem _⟩
  obtain ⟨u, hu1, hu2⟩ := rv.get hx
  rw [hP] at hu1
  cases hu1
  refine ⟨x, H, I.kept (t' := tk) hk', hu2, q k x hx ?_⟩
  have hk2 : k < (y :: ds).length := by simp; omega
  rw [List.getElem?_eq_getElem hk2]
  rw [List.getD_eq_getElem?_getD, List.getElem?_eq_getElem hk2, Option.getD_some] at e2
  rw [e2]; rfl
variable {P : Program} {w : World} {base : Heap} {k : Nat} {N : List Str} {sc : Scope} {c : Cn} {pos : Pos}
theorem okL_of {l : List D} (h : l.all cmpOk = true) : okL l = true := by
  induction l with
  | nil => rfl
  | cons d l ih =>
    rw [List.all_cons, Bool.and_eq_true] at h
    simp [okL, cmpOk_ok h.1, ih h.2]
theorem c_min (G : Gd P w base k N sc X c) : CalX X c (.builtin "min") .s minDD := by
  refine ⟨_, cr_minDat (G.room.hd) (by have := G.hu; omega), fun ma => ?_⟩
  intro own env n2 σ H0 H x a Q R ra g
  have wa := R.weak ra
  unfold minDD at g
  split at g
  · rename_i y ds
    obtain ⟨hok, g⟩ := g.need'
    obtain ⟨p, xs, e, nd, s, r⟩ := wa
    subst e
    rw [G.K]
    have hok' := hok
    simp only [minOk, Bool.and_eq_true] at hok'
    refine ⟨p, xs, y, ds, rfl, SqL.of s, (RpL.dp (okL_of hok'.1.1) r).1, hok, fun i v hv hd => ?_⟩
    obtain ⟨d, e1, e2⟩ := r.get hv
    rw [hd] at e1
    cases e1
    exact g.done R e2
  · exact g.stop'.elim
end
/-! ### key=len -/
def lenO : D → Option Nat
  | .tup l => some l.length
  | .lst l => some l.length
  | _ => none
def lenB (a b : D) : Bool := decide ((lenO a).getD 0 < (lenO b).getD 0)
def minKL (x : D) (xs : List D) : D := xs.foldl (fun a y => if lenB y a = true then y else a) x
def minKD (a : D) : Mo D := match a with
  | .lst (x :: xs) => need ((x :: xs).all (fun d => match d with | .tup _ => true | _ => false) = true) (ret (minKL x xs))
  | _ => stop
def rMinKey (K : PySem.W.Frag) : List V → Hp → VK → Prop := fun vs H Q => ∃ (a : Addr) (xs : List V) (y : D) (ds : List D), vs = [.ref a] ∧ SqL K H a xs ∧ xs.length = ds.length + 1 ∧ (∀ (i : Nat) v, xs[i]? = some v → ∃ p zs, v = .ref p ∧ SqT K H p zs ∧ lenO ((y :: ds).getD i .non) = some zs.length) ∧ ∀ (i : Nat) v, xs[i]? = some v → (y :: ds)[i]? = some (minKL y ds) → Q v H
section
variable {X : Cx}
theorem cr_minKey (hc : X.A.handled = none) {pins : List (Addr × Obj)} {s : Shared} {σ : L2.St} {H : Hp} {vs : List V} {us : List Value} {Q : VK} (I : L2.Inv X pins σ H s) (r : Vals vs us) (h : rMinKey X.K vs H Q) :
    wpAny (model X.prog X.w) X.A (call (.builtin "min") us [(Str.ofString "key", .builtin "len")]) (EP X pins σ Q) X.xe s := by
  obtain ⟨a, xs, y, ds, rfl, hs, hl, hlen, q⟩ := h
  rw [Vals.ref1 r]
  obtain ⟨its, rv, pl, hz⟩ := I.list hs
  have lx : xs.length = its.length := rv.length
  have hn : its.length = ds.length + 1 := by omega
  refine call_min_walkKB (iter_listW (A := X.A.in1) hc pl.isList fun s₂ e W st hfp hw hk => ?_)
  -- the tuples' items
  have tl : ∀ (i : Nat) v, its.toArray[i]? = some v → ∃ (p : Addr) (zs : Array Value), v = .ref p ∧ IsTup s.heap p zs ∧ zs.size ≤ sizeLine ∧ lenO ((y :: ds).getD i .non) = some zs.size := fun i v hv => by
    have hv : its[i]? = some v := by simpa using hv
    obtain ⟨x, hx⟩ : ∃ x, xs[i]? = some x := ⟨xs[i]'(by rw [lx]; exact (List.getElem?_eq_some_iff.mp hv).1), List.getElem?_eq_getElem _⟩
    obtain ⟨u, hu1, hu2⟩ := rv.get hx
    rw [hv] at hu1
    cases hu1
    obtain ⟨p, zs, e1, e2, e3⟩ := hlen i x hx
    subst e1
    cases hu2
    obtain ⟨jts, rz, pt, hz2⟩ := I.tuple e2
    have lz := rz.length
    exact ⟨p, jts.toArray, rfl, pt, by simp; omega, by rw [e3]; simp [lz]⟩
  have hsz := sizeLine_eq
  refine ⟨_, _, _, _, _, _, _, (fun s' => ∃ h' tk, s' = { s with heap := h', toks := tk } ∧ ∀ b o, s.heap.get? b = some o → h'.get? b = some o), (fun i kv _ => ∃ t, kv = .int ((lenO ((y :: ds).getD i .non)).getD 0 : Nat) t), (fun i j => lenB ((y :: ds).getD i .non) ((y :: ds).getD j .non)), rfl, W, st, hfp, by simp; omega, ⟨?_, ?_, ?_, ?_⟩, ⟨_, s.toks, e, fun b o q => by have := hk b o q; rw [e] at this; exact this⟩, fun v s' hP hJ => ?_⟩
  · rintro s1 s2 ⟨h1, t1, rfl, hJ⟩ m
    refine ⟨s2.heap, s2.toks, (Moved.eq_with m).trans rfl, fun b o eo => m.heap b o (fun hb => ?_) (hJ b o eo)⟩
    rcases List.mem_cons.mp hb with z | z
    · have := Heap.lt_size eo
      rw [z, e] at this
      have h3 : (s.heap.push { cls := .type "list_iterator", data := .fields #[.ref a, .int 0 0] }).objs.size = s.heap.objs.size + 1 := Heap.size_push ..
      have this : (s.heap.push { cls := .type "list_iterator", data := .fields #[.ref a, .int 0 0] }).objs.size < s.heap.objs.size := this
      omega
    · exact hw b o eo z
  · intro i kv s1 s2 h m
    exact h
  · intro i v s1 o Q' E' hi hv hJ0 hst hS hQ
    obtain ⟨p, zs, e1, e2, e3, e4⟩ := tl i v hv
    obtain ⟨h1, t1, rfl, hJ⟩ := hJ0
    subst e1
    have pt : IsTup h1 p zs := by
      obtain ⟨o, ho, x⟩ := e2
      exact ⟨o, hJ _ _ ho, x⟩
    have l63 := line63
    refine len_tuple pt (by omega) ?_
    have W1 := W.frame (i + 1) _ h1 (t1 + 1 + 1) hst (Nat.le_add_right _ 2) fun b _ o eo => eo
    exact hQ _ _ ⟨h1, t1 + 1 + 1, rfl, hJ⟩ W1 hS ⟨_, by rw [e4]; rfl⟩ fun _ _ z => z
  · intro i j ki kj s1 Q' E' hJ h1 h2 hQ
    obtain ⟨t1, rfl⟩ := h1
    obtain ⟨t2, rfl⟩ := h2
    refine P.lt_int ?_
    have e5 : lenB ((y :: ds).getD i .non) ((y :: ds).getD j .non) = decide ((((lenO ((y :: ds).getD i .non)).getD 0 : Nat) : Int) < ((lenO ((y :: ds).getD j .non)).getD 0 : Nat)) := by
      unfold lenB
      rw [decide_eq_decide]
      omega
    rw [← e5]
    exact hQ
  · obtain ⟨h', tk, rfl, hk'⟩ := hJ
    have e1 : its.toArray.size - 1 = ds.length := by simp; omega
    rw [e1] at hP
    obtain ⟨i1, e2⟩ := argBest_fold (fun a b : D => lenB a b) D.non y ds ds.length (Nat.le_refl _)
    rw [List.take_length] at e2
    have hP : its.toArray[argBest (fun i j => (fun a b : D => lenB a b) ((y :: ds).getD i .non) ((y :: ds).getD j .non)) ds.length]? = some v := hP
    generalize argBest (fun i j => (fun a b : D => lenB a b) ((y :: ds).getD i .non) ((y :: ds).getD j .non)) ds.length = k at hP i1 e2
    have hP : its[k]? = some v := by simpa using hP
    obtain ⟨x, hx⟩ : ∃ x, xs[k]? = some x := ⟨xs[k]'(by omega), List.getElem?_eq_getElem _⟩
    obtain ⟨u, hu1, hu2⟩ := rv.get hx
    rw [hP] at hu1
    cases hu1
    refine ⟨x, H, I.kept (t' := tk) hk', hu2, q k x hx ?_⟩
    have hk2 : k < (y :: ds).length := by simp; omega
    rw [List.getElem?_eq_getElem hk2]
    rw [List.getD_eq_getElem?_getD, List.getElem?_eq_getElem hk2, Option.getD_some] at e2
    rw [e2]; rfl
variable {P : Program} {w : World} {base : Heap} {k : Nat} {N : List Str} {sc : Scope} {c : Cn} {pos p kp kpos : Pos} {e : Expr} {te : DE} {me : Md}
theorem e_minK (G : Gd P w base k N sc X c) (hg : glB sc "min" = true) (hm : c.mg "min" = none) (hg2 : glB sc "len" = true) (hm2 : c.mg "len" = none) (he : PE X e (tX c me te)) (hs : backTo pos (starEach [e] X.env) = (false, eval e X.env) :: backTo pos (starEach [] X.env)) (hpl : (backTo pos (starEach [e] X.env)).any (·.1) = false)
    (hs2 : starEach [e] X.env = (false, eval e X.env) :: starEach [] X.env) :
    PE X (.Call (.Name "min" p) [e] [⟨some "key", .Name "len" kp, kpos⟩] pos) (tX c .s (un1 te minKD)) := by
  obtain ⟨g1, g2, g3⟩ := glB_of hg
  obtain ⟨l1, l2, l3⟩ := glB_of hg2
  refine PE.imp (t := fun σ H Q => tX c me te σ H fun y H1 => rMinKey X.K [y] H1 Q) ⟨fun pins s σ H Q I h => ?_⟩ fun σ H Q q => ?_
  · refine wpAny_Call_Name_kw (ld_blt I (G.gl g1) (by rw [G.mg]; exact hm) (show bootBuiltins "min" = some (.builtin "min") by decide +kernel) ?_ g3 g2)
    refine PyProof.Rows.callWith_kw (thn ((pa_cons he pa_nil hs2).run pos pins s σ H (fun vs H1 => rMinKey X.K vs H1 Q) I h) fun us s1 ⟨vs, H1, I1, r1, q1⟩ => ?_) hs hpl rfl rfl
    show wpAny _ _ (evalAll [(do let v ← eval (.Name "len" kp) X.env; standAt pos; pure v)]) _ _ s1
    refine wpAny_evalAll_cons (wpAny_bind (ld_blt I1 (G.gl l1) (by rw [G.mg]; exact hm2) PySem.boot_len (wpAny_bind (wpAny_standAt (wpAny_pure ?_))) l3 l2))
    refine wpAny_evalAll_nil ?_
    exact cr_minKey (G.room.hd) I1 r1 q1
  · refine op1_tX (md := .s) (r := fun y H Q => rMinKey X.K [y] H Q) ?_ q
    intro own env n2 σ H0 H x a Q R ra g
    have wa := R.weak ra
    unfold minKD at g
    split at g
    · rename_i y ds
      obtain ⟨hok, g⟩ := g.need'
      obtain ⟨p, xs, e, nd, s, r⟩ := wa
      subst e
      rw [G.K]
      refine ⟨p, xs, y, ds, rfl, SqL.of s, by rw [r.length]; rfl, fun i v hv => ?_, fun i v hv hd => ?_⟩
      · obtain ⟨d, e1, e2⟩ := r.get hv
        have hd := List.all_eq_true.mp hok d (List.mem_of_getElem? e1)
        have hg : (y :: ds).getD i .non = d := by rw [List.getD_eq_getElem?_getD, e1]; rfl
        rw [hg]
        cases d with
        | tup l =>
          cases e2 with
          | tup h1 h2 _ => exact ⟨_, _, rfl, h1, by rw [h2.length]; rfl⟩
        | _ => cases hd
      · obtain ⟨d, e1, e2⟩ := r.get hv
        rw [hd] at e1
        cases e1
        exact g.done R e2
    · exact g.stop'.elim
end
end DL

/-! part thirty-one: a comprehension stored without a swap -/
namespace DL
open PySem PySem.Spec L2
section
variable {P : Program} {w : World} {base : Heap} {k : Nat} {N : List Str} {sc : Scope} {X : Cx} {c : Cn} {elt : Expr} {gs : List Comprehension} {scope : Scope} {pos py : Pos} {y : Str} {l : Nat}
theorem loc_beq (o : Option NameKind) : (o == some NameKind.local) = (match o with | some .local => true | _ => false) := by
  cases o with
  | none => rfl
  | some k => cases k <;> rfl
theorem sw_no (G : Gd P w base k N sc X c) (h : (isLoc sc y && (py.line == pos.line) && !(scope.names.any fun (n, k) => n == y && (k == .local || k == .cell))) = false) : swapsWith (.ListComp elt gs scope pos) (some (.Name y py)) l X.env = pure false := by
  have hk : (X.env.kindOf y == some NameKind.local) = isLoc sc y := by
    have e : X.env.kindOf y = sc.names.lookup y := by rw [← G.sc]; rfl
    rw [e, loc_beq]; rfl
  unfold swapsWith
  simp only [Expr.pos, hk]
  have : (X.env.blockKind == .function && isLoc sc y && (py.line == pos.line) && !(scope.names.any fun (n, k) => n == y && (k == .local || k == .cell))) = false := by
    cases hb : (X.env.blockKind == .function) with
    | false => rfl
    | true => simpa [hb] using h
  rw [this]
end
end DL

/-! the mathematics' own tools: computations run, loops by invariant -/
namespace DL
open PySem PySem.Spec L2

/-- item by item -/
inductive All2 {α β : Type} (R : α → β → Prop) : List α → List β → Prop
  | nil : All2 R [] []
  | cons {x : α} {y : β} {xs : List α} {ys : List β} : R x y → All2 R xs ys → All2 R (x :: xs) (y :: ys)
theorem All2.length {α β : Type} {R : α → β → Prop} : ∀ {xs : List α} {ys : List β}, All2 R xs ys → ys.length = xs.length
  | _, _, .nil => rfl
  | _, _, .cons _ t => by simp [t.length]
/-- made by a function from witnesses -/
theorem All2.map {α β γ : Type} {R : α → β → Prop} {enc : γ → β} {Q : α → γ → Prop} (hR : ∀ x y, R x y → ∃ z, y = enc z ∧ Q x z) : ∀ {xs : List α} {ys : List β}, All2 R xs ys → ∃ zs, ys = zs.map enc ∧ All2 Q xs zs
  | _, _, .nil => ⟨[], rfl, .nil⟩
  | _, _, .cons r t => by
    obtain ⟨z, e, q⟩ := hR _ _ r
    obtain ⟨zs, e2, q2⟩ := All2.map hR t
    exact ⟨z :: zs, by rw [e, e2]; rfl, .cons q q2⟩
theorem All2.mem {α β : Type} {R : α → β → Prop} {P : β → Prop} (h : ∀ x y, R x y → P y) : ∀ {xs : List α} {ys : List β}, All2 R xs ys → ∀ y ∈ ys, P y
  | _, _, .nil, _, hy => by cases hy
  | _, _, .cons r t, y, hy => by
    rcases List.mem_cons.mp hy with e | hy
    · rw [e]; exact h _ _ r
    · exact All2.mem h t y hy
/-- from n draws left at most b are used, and the value is as Q says -/
def Run {α : Type} (m : Mo α) (b : Nat) (Q : α → Prop) : Prop := ∀ (n : Nat) (Qd : α → Nat → Prop) (Xd : XD → Nat → Prop), b ≤ n → (∀ a n', n' ≤ n → n ≤ n' + b → Q a → Qd a n') → m n Qd Xd
theorem Run.ret {α : Type} {a : α} {b : Nat} {Q : α → Prop} (h : Q a) : Run (DL.ret a) b Q := fun n Qd Xd hb hq => hq a n (Nat.le_refl _) (Nat.le_add_right _ _) h
theorem Run.mono {α : Type} {m : Mo α} {b b' : Nat} {Q Q' : α → Prop} (h : Run m b Q) (hb : b ≤ b') (hQ : ∀ a, Q a → Q' a) : Run m b' Q' :=
  fun n Qd Xd hn hq => h n Qd Xd (by omega) fun a n' h1 h2 h3 => hq a n' h1 (by omega) (hQ a h3)
theorem Run.bnd {α β : Type} {m : Mo α} {f : α → Mo β} {b1 b2 : Nat} {Q1 : α → Prop} {Q : β → Prop} (h : Run m b1 Q1) (hf : ∀ a, Q1 a → Run (f a) b2 Q) : Run (DL.bnd m f) (b1 + b2) Q := by
  intro n Qd Xd hb hq
  refine h n _ Xd (by omega) fun a n1 h1 h2 h3 => ?_
  exact hf a h3 n1 Qd Xd (by omega) fun c n2 k1 k2 k3 => hq c n2 (by omega) (by omega) k3
/-- a def's whole -/
theorem run_def {nN : Nat} {t : DS} {ds : List D} {b : Nat} {Q : D → Prop}
    (h : ∀ (n : Nat) (k : DK) (X : XQ), b ≤ n → (∀ e n', n' ≤ n → n ≤ n' + b → Q .non → k.nx e n') → (∀ d n', n' ≤ n → n ≤ n' + b → Q d → k.rt d n') → t (envOf nN ds) k X n) : Run (defM nN t ds) b Q :=
  fun n Qd Xd hb hq => h n _ _ hb (fun _ n' h1 h2 h3 => hq _ n' h1 h2 h3) fun d n' h1 h2 h3 => hq d n' h1 h2 h3
/-- a drawn number -/
theorem run_draw {m : Int} (h0 : 0 < m) (h1 : m < 1073741824) : Run (drawM [.deck, .int m]) 1 fun d => ∃ r : Int, d = .int r ∧ 0 ≤ r ∧ r < m := by
  intro n Qd Xd hb hq
  exact ⟨by omega, h0, h1, fun r k1 k2 => hq _ (n - 1) (by omega) (by omega) ⟨r, rfl, k1, k2⟩⟩
/-- for, by an invariant of what is left, the slots and the draws -/
theorem forS_ok {tg : Tg} {ks : List Nat} {it : DI} {b : DS} {env : Env'} {k : DK} {X : XQ} {n : Nat} (ds : List D) (I : List D → Env' → Nat → Prop) (hit : it env = ret ds) (h0 : I ds (killE ks env) n)
    (hs : ∀ d ds' e m (nx' : Env' → Nat → Prop), (∀ e' m', I ds' (killE ks e') m' → nx' e' m') → I (d :: ds') e m → ∃ e1, stT tg d e = some e1 ∧ b e1 { k with nx := nx', ct := nx', bk := fun e' m' => k.nx (killE ks e') m' } X m)
    (he : ∀ e m, I [] e m → k.nx e m) : forS tg ks it b env k X n := by
  have core : ∀ (ds : List D) (e : Env') (m : Nat), I ds e m → forL tg ks b ds e k X m := by
    intro ds
    induction ds with
    | nil => exact fun e m h => he e m h
    | cons d ds' ih =>
      intro e m h
      obtain ⟨e1, h1, h2⟩ := hs d ds' e m (fun e' m' => forL tg ks b ds' (killE ks e') k X m') (fun e' m' q => ih _ m' q) h
      simp only [forL, h1]
      exact h2
  show it env n _ _
  rw [hit]
  exact core ds _ n h0
/-- while, by an invariant and a measure -/
theorem whS_ok {t : DE} {ks : List Nat} {b : DS} {env : Env'} {k : DK} {X : XQ} {n : Nat} (I : Nat → Env' → Nat → Prop) (f : Nat) (h0 : I f (killE ks env) n)
    (hs : ∀ f e m (nx' : Env' → Nat → Prop), (∀ f' e' m', f' < f → I f' (killE ks e') m' → nx' e' m') → I f e m → t e m (fun d n' => (d = .bl true → b e { k with nx := nx', ct := nx', bk := k.nx } X n') ∧ (d = .bl false → k.nx e n') ∧ (d = .bl true ∨ d = .bl false)) (X e)) : whS t ks b env k X n := by
  have core : ∀ (f : Nat) (g : Nat) (e : Env') (m : Nat), f < g → I f e m → whL t ks b g e k X m := by
    intro f
    induction f using Nat.strongRecOn with
    | _ f ih =>
      intro g e m hg h
      cases g with
      | zero => omega
      | succ g =>
        unfold whL
        exact hs f e m (fun e' m' => whL t ks b g (killE ks e') k X m') (fun f' e' m' hf q => ih f' hf g _ m' (by omega) q) h
  exact ⟨f + 1, core f (f + 1) _ n (Nat.lt_succ_self f) h0⟩
/-- comprehensions -/
theorem lcL_run {α : Type} {tg : Tg} {tt te : DE} {env : Env'} (enc : α → D) (p : α → Bool) (R : α → D → Prop) (b : Nat) : ∀ (xs : List α) (acc : List D),
    (∀ x ∈ xs, ∃ e1, stT tg (enc x) env = some e1 ∧ tt e1 = ret (.bl (p x)) ∧ (p x = true → Run (te e1) b (R x))) → acc.length + xs.length ≤ sizeLine →
    Run (lcL tg tt te env (xs.map enc) acc) (xs.length * b) fun l => ∃ ys, l = acc ++ ys ∧ All2 R (xs.filter p) ys
  | [], acc, _, _ => Run.ret ⟨[], by simp, .nil⟩
  | x :: xs, acc, h, hl => by
    obtain ⟨e1, h1, h2, h3⟩ := h x List.mem_cons_self
    simp only [List.length_cons] at hl
    intro n Qd Xd hb hq
    have hb' : xs.length * b + b ≤ n := by
      have : (x :: xs).length * b = xs.length * b + b := by rw [List.length_cons, Nat.succ_mul]
      omega
    have tot : (x :: xs).length * b = xs.length * b + b := by rw [List.length_cons, Nat.succ_mul]
    simp only [List.map_cons, lcL, h1, h2, DL.bnd, DL.ret, iteL]
    cases hp : p x with
    | true =>
      refine h3 hp n _ Xd (by omega) fun y n1 k1 k2 k3 => ⟨by omega, ?_⟩
      refine lcL_run enc p R b xs (acc ++ [y]) (fun z hz => h z (List.mem_cons_of_mem _ hz)) (by simp; omega) n1 Qd Xd (by omega) fun l n2 j1 j2 j3 => ?_
      obtain ⟨ys, e, f⟩ := j3
      exact hq l n2 (by omega) (by omega) ⟨y :: ys, by rw [e]; simp, by rw [List.filter_cons_of_pos hp]; exact .cons k3 f⟩
    | false =>
      refine lcL_run enc p R b xs acc (fun z hz => h z (List.mem_cons_of_mem _ hz)) (by omega) n Qd Xd (by omega) fun l n2 j1 j2 j3 => ?_
      obtain ⟨ys, e, f⟩ := j3
      exact hq l n2 (by omega) (by omega) ⟨ys, e, by rw [List.filter_cons_of_neg (by rw [hp]; exact Bool.false_ne_true)]; exact f⟩
/-- .. without draws: a map of a filter -/
theorem lcL_map {α : Type} {tg : Tg} {tt te : DE} {env : Env'} (enc : α → D) (p : α → Bool) (g : α → D) : ∀ (xs : List α) (acc : List D),
    (∀ x ∈ xs, ∃ e1, stT tg (enc x) env = some e1 ∧ tt e1 = ret (.bl (p x)) ∧ (p x = true → te e1 = ret (g x))) → acc.length + xs.length ≤ sizeLine →
    lcL tg tt te env (xs.map enc) acc = ret (acc ++ (xs.filter p).map g)
  | [], acc, _, _ => by simp [lcL]
  | x :: xs, acc, h, hl => by
    obtain ⟨e1, h1, h2, h3⟩ := h x List.mem_cons_self
    simp only [List.length_cons] at hl
    simp only [List.map_cons, lcL, h1, h2]
    cases hp : p x with
    | true =>
      have e : (DL.bnd (te e1) fun y => need (acc.length < sizeLine) (lcL tg tt te env (xs.map enc) (acc ++ [y]))) = lcL tg tt te env (xs.map enc) (acc ++ [g x]) := by
        rw [h3 hp]
        funext n Q X
        show (acc.length < sizeLine ∧ _) = _
        exact propext ⟨fun z => z.2, fun z => ⟨by omega, z⟩⟩
      show (DL.bnd (te e1) fun y => need (acc.length < sizeLine) (lcL tg tt te env (xs.map enc) (acc ++ [y]))) = _
      rw [e, lcL_map enc p g xs (acc ++ [g x]) (fun z hz => h z (List.mem_cons_of_mem _ hz)) (by simp; omega), List.filter_cons_of_pos hp]
      simp
    | false =>
      show lcL tg tt te env (xs.map enc) acc = _
      rw [lcL_map enc p g xs acc (fun z hz => h z (List.mem_cons_of_mem _ hz)) (by omega), List.filter_cons_of_neg (by rw [hp]; exact Bool.false_ne_true)]
theorem need_t {α : Type} {p : Prop} {m : Mo α} (h : p) : need p m = m := by
  funext n Q X
  exact propext ⟨fun z => z.2, fun z => ⟨h, z⟩⟩
theorem bnd_ret {α β : Type} (a : α) (f : α → Mo β) : bnd (ret a) f = f a := rfl
theorem bnd_bnd {α β γ : Type} (m : Mo α) (f : α → Mo β) (g : β → Mo γ) : bnd (bnd m f) g = bnd m fun a => bnd (f a) g := rfl
theorem lcT_map {α : Type} {tg : Tg} {it : DI} {tt te : DE} {vs : List Nat} {env : Env'} (enc : α → D) (xs : List α) (p : α → Bool) (g : α → D) (hit : it env = ret (xs.map enc)) (hno : noOwn vs env = true)
    (h : ∀ x ∈ xs, ∃ e1, stT tg (enc x) (killE vs env) = some e1 ∧ tt e1 = ret (.bl (p x)) ∧ (p x = true → te e1 = ret (g x))) (hl : xs.length ≤ sizeLine) : lcT tg it tt te vs env = ret (.lst ((xs.filter p).map g)) := by
  unfold lcT
  rw [hit, bnd_ret, need_t hno, lcL_map enc p g xs [] h (by simpa using hl)]
  simp only [List.nil_append]
  rfl
theorem lcT_run {α : Type} {tg : Tg} {it : DI} {tt te : DE} {vs : List Nat} {env : Env'} (enc : α → D) (xs : List α) (p : α → Bool) (R : α → D → Prop) (b : Nat) (hit : it env = ret (xs.map enc)) (hno : noOwn vs env = true)
    (h : ∀ x ∈ xs, ∃ e1, stT tg (enc x) (killE vs env) = some e1 ∧ tt e1 = ret (.bl (p x)) ∧ (p x = true → Run (te e1) b (R x))) (hl : xs.length ≤ sizeLine) :
    Run (lcT tg it tt te vs env) (xs.length * b) fun d => ∃ ys, d = .lst ys ∧ All2 R (xs.filter p) ys := by
  unfold lcT
  rw [hit, bnd_ret, need_t hno]
  intro n Qd Xd hb hq
  refine lcL_run enc p R b xs [] h (by simpa using hl) n _ _ hb fun l n1 h1 h2 h3 => ?_
  obtain ⟨ys, e, f⟩ := h3
  exact hq _ n1 h1 h2 ⟨ys, by rw [e]; rfl, f⟩
end DL

/-! data of stores and books -/
namespace DL
open PySem PySem.Spec L2
abbrev Row := List Str
def encA (a : Row) : D := .tup (a.map .str)
def encR (r : List Row × List Row) : D := .tup [.tup (r.1.map encA), .tup (r.2.map encA)]
def encK (k : Str × List Int) : D := .tup [.str k.1, .tup (k.2.map .int)]
def encB (b : List (List Row × List Row) × List (Str × List Int)) : D := .tup [.tup (b.1.map encR), .tup (b.2.map encK)]
/-! what may be compared -/
theorem eqB_str (a b : Str) : eqB (.str a) (.str b) = decide (a = b) := by
  simp only [eqB, py, PyData.eqv]
  exact Bool.beq_eq_decide_eq a b
theorem eqB_int (a b : Int) : eqB (.int a) (.int b) = decide (a = b) := by
  simp only [eqB, py, PyData.eqv]
  exact Bool.beq_eq_decide_eq a b
theorem cmpOk_str (a : Str) : cmpOk (.str a) = true := rfl
theorem cmpOk_int (a : Int) : cmpOk (.int a) = true := rfl
theorem cmpOk_bl (a : Bool) : cmpOk (.bl a) = true := rfl
theorem cmpOk_non : cmpOk .non = true := rfl
theorem eqD_str (a b : Str) : eqD (.str a) (.str b) = ret (.bl (decide (a = b))) := by rw [eqD, need_t ⟨rfl, rfl⟩, eqB_str]
theorem eqD_int (a b : Int) : eqD (.int a) (.int b) = ret (.bl (decide (a = b))) := by rw [eqD, need_t ⟨rfl, rfl⟩, eqB_int]
theorem neD_str (a b : Str) : neD (.str a) (.str b) = ret (.bl (!decide (a = b))) := by rw [neD, need_t ⟨rfl, rfl⟩, eqB_str]
theorem neD_int (a b : Int) : neD (.int a) (.int b) = ret (.bl (!decide (a = b))) := by rw [neD, need_t ⟨rfl, rfl⟩, eqB_int]
theorem ltD_int (a b : Int) : ltD (.int a) (.int b) = ret (.bl (decide (a < b))) := by
  have h : ordOk (.int a) (.int b) = true := rfl
  rw [ltD, need_t h]
  rfl
theorem okL_map {α : Type} (enc : α → D) (h : ∀ x, okD (enc x) = true) : ∀ xs : List α, okL (xs.map enc) = true
  | [] => rfl
  | x :: xs => by simp [okL, h x, okL_map enc h xs]
theorem depL_map {α : Type} (enc : α → D) {n : Nat} (h : ∀ x, (py (enc x)).depth ≤ n) : ∀ xs : List α, PyData.depthAll (pyL (xs.map enc)) ≤ n
  | [] => Nat.zero_le _
  | x :: xs => by
    simp only [List.map_cons, pyL, PyData.depthAll]
    exact Nat.max_le.mpr ⟨h x, depL_map enc h xs⟩
theorem okA (a : Row) : okD (encA a) = true := okL_map _ (fun _ => rfl) a
theorem depA (a : Row) : (py (encA a)).depth ≤ 1 := by
  have := depL_map (D.str) (n := 0) (fun _ => Nat.le_refl _) a
  simp only [encA, py, PyData.depth]
  omega
theorem cmpOk_of {d : D} (h : okD d = true) (h2 : (py d).depth ≤ 60) : cmpOk d = true := by
  unfold cmpOk
  rw [h, decide_eq_true h2]
  rfl
theorem cmpOk_ints (cs : List Int) : cmpOk (.tup (cs.map .int)) = true := cmpOk_of (okL_map _ (fun _ => rfl) cs) (by
  have := depL_map (D.int) (n := 0) (fun _ => Nat.le_refl _) cs
  simp only [py, PyData.depth]
  omega)
theorem cmpOk_intsL (cs : List Int) : cmpOk (.lst (cs.map .int)) = true := cmpOk_of (okL_map _ (fun _ => rfl) cs) (by
  have := depL_map (D.int) (n := 0) (fun _ => Nat.le_refl _) cs
  simp only [py, PyData.depth]
  omega)
theorem cmpOk_strs (cs : List Str) : cmpOk (.tup (cs.map .str)) = true := cmpOk_of (okL_map _ (fun _ => rfl) cs) (by
  have := depL_map (D.str) (n := 0) (fun _ => Nat.le_refl _) cs
  simp only [py, PyData.depth]
  omega)
theorem cmpOk_strsL (cs : List Str) : cmpOk (.lst (cs.map .str)) = true := cmpOk_of (okL_map _ (fun _ => rfl) cs) (by
  have := depL_map (D.str) (n := 0) (fun _ => Nat.le_refl _) cs
  simp only [py, PyData.depth]
  omega)
theorem any_eqInt (a : Int) (cs : List Int) : ((cs.map D.int).any fun z => eqB z (.int a)) = decide (a ∈ cs) := by
  induction cs with
  | nil => rfl
  | cons c cs ih =>
    rw [List.map_cons, List.any_cons, ih, eqB_int]
    by_cases h : c = a
    · subst h; simp
    · have h2 : a ≠ c := fun e => h e.symm
      simp [h, h2]
theorem any_eqStr (a : Str) (cs : List Str) : ((cs.map D.str).any fun z => eqB z (.str a)) = decide (a ∈ cs) := by
  induction cs with
  | nil => rfl
  | cons c cs ih =>
    rw [List.map_cons, List.any_cons, ih, eqB_str]
    by_cases h : c = a
    · subst h; simp
    · have h2 : a ≠ c := fun e => h e.symm
      simp [h, h2]
theorem inD_ints (a : Int) (cs : List Int) : inD (.int a) (.tup (cs.map .int)) = ret (.bl (decide (a ∈ cs))) := by
  rw [inD, need_t ⟨rfl, cmpOk_ints cs⟩, any_eqInt]
theorem inD_strs (a : Str) (cs : List Str) : inD (.str a) (.tup (cs.map .str)) = ret (.bl (decide (a ∈ cs))) := by
  rw [inD, need_t ⟨rfl, cmpOk_strs cs⟩, any_eqStr]
theorem inD_strsL (a : Str) (cs : List Str) : inD (.str a) (.lst (cs.map .str)) = ret (.bl (decide (a ∈ cs))) := by
  rw [inD, need_t ⟨rfl, cmpOk_strsL cs⟩, any_eqStr]
theorem ret_app {α : Type} (a : α) (n : Nat) (Q : α → Nat → Prop) (X : XD → Nat → Prop) : ret a n Q X = Q a n := rfl
theorem bnd_app {α β : Type} (m : Mo α) (f : α → Mo β) (n : Nat) (Q : β → Nat → Prop) (X : XD → Nat → Prop) : bnd m f n Q X = m n (fun a n' => f a n' Q X) X := rfl
theorem need_app {α : Type} (p : Prop) (m : Mo α) (n : Nat) (Q : α → Nat → Prop) (X : XD → Nat → Prop) : need p m n Q X = (p ∧ m n Q X) := rfl
end DL
namespace DL
open PySem PySem.Spec L2
theorem forS_map {α : Type} {tg : Tg} {ks : List Nat} {it : DI} {b : DS} {env : Env'} {k : DK} {X : XQ} {n : Nat} (enc : α → D) (xs : List α) (I : List α → Env' → Nat → Prop) (hit : it env = ret (xs.map enc)) (h0 : I [] (killE ks env) n)
    (hs : ∀ done x todo e m (nx' : Env' → Nat → Prop), xs = done ++ x :: todo → (∀ e' m', I (done ++ [x]) (killE ks e') m' → nx' e' m') → I done e m → ∃ e1, stT tg (enc x) e = some e1 ∧ b e1 { k with nx := nx', ct := nx', bk := fun e' m' => k.nx (killE ks e') m' } X m)
    (he : ∀ e m, I xs e m → k.nx e m) : forS tg ks it b env k X n := by
  refine forS_ok (xs.map enc) (fun ds e m => ∃ done todo, xs = done ++ todo ∧ ds = todo.map enc ∧ I done e m) hit ⟨[], xs, rfl, rfl, h0⟩ (fun d ds' e m nx' hn h => ?_) fun e m h => ?_
  · obtain ⟨done, todo, h1, h2, h3⟩ := h
    cases todo with
    | nil => cases h2
    | cons x todo =>
      rw [List.map_cons] at h2
      injection h2 with h4 h5
      subst h4 h5
      exact hs done x todo e m nx' h1 (fun e' m' q => hn e' m' ⟨done ++ [x], todo, by rw [h1]; simp, rfl, q⟩) h3
  · obtain ⟨done, todo, h1, h2, h3⟩ := h
    cases todo with
    | nil =>
      rw [List.append_nil] at h1
      subst h1
      exact he e m h3
    | cons x todo => cases h2
end DL
namespace DL
open PySem PySem.Spec L2
theorem def_ret (nN : Nat) (e : DE) (ds : List D) : defM nN (seqS (retS e) skipS) ds = e (envOf nN ds) := rfl
theorem atI_zero {α : Type} (x : α) (xs : List α) : atI (x :: xs) 0 = some x := atI_nat (j := 0) rfl
theorem atI_one {α : Type} (x y : α) (xs : List α) : atI (x :: y :: xs) 1 = some y := atI_nat (j := 1) rfl
theorem atI_two {α : Type} (x y z : α) (xs : List α) : atI (x :: y :: z :: xs) 2 = some z := atI_nat (j := 2) rfl
theorem atI_three {α : Type} (x y z w : α) (xs : List α) : atI (x :: y :: z :: w :: xs) 3 = some w := atI_nat (j := 3) rfl
theorem Bool.tf (b : Bool) : b = true ∨ b = false := by cases b <;> simp
end DL
namespace DL
open PySem PySem.Spec L2
theorem lcT_mapQ {α : Type} {tg : Tg} {it : DI} {tt te : DE} {vs : List Nat} {env : Env'} {n : Nat} {Q : D → Nat → Prop} {X : XD → Nat → Prop} (enc : α → D) (xs : List α) (p : α → Bool) (g : α → D) (hit : it env = ret (xs.map enc)) (hno : noOwn vs env = true)
    (h : ∀ x ∈ xs, ∃ e1, stT tg (enc x) (killE vs env) = some e1 ∧ tt e1 = ret (.bl (p x)) ∧ (p x = true → te e1 = ret (g x))) (hl : xs.length ≤ sizeLine) (hq : Q (.lst ((xs.filter p).map g)) n) : lcT tg it tt te vs env n Q X := by
  rw [lcT_map enc xs p g hit hno h hl]
  exact hq
theorem lcT_all {α : Type} {tg : Tg} {it : DI} {te : DE} {vs : List Nat} {env : Env'} (enc : α → D) (xs : List α) (g : α → D) (hit : it env = ret (xs.map enc)) (hno : noOwn vs env = true)
    (h : ∀ x ∈ xs, ∃ e1, stT tg (enc x) (killE vs env) = some e1 ∧ te e1 = ret (g x)) (hl : xs.length ≤ sizeLine) : lcT tg it yesT te vs env = ret (.lst (xs.map g)) := by
  rw [lcT_map enc xs (fun _ => true) g hit hno (fun x hx => ?_) hl, List.filter_eq_self.mpr fun _ _ => rfl]
  obtain ⟨e1, h1, h2⟩ := h x hx
  exact ⟨e1, h1, rfl, fun _ => h2⟩
theorem lcT_allQ {α : Type} {tg : Tg} {it : DI} {te : DE} {vs : List Nat} {env : Env'} {n : Nat} {Q : D → Nat → Prop} {X : XD → Nat → Prop} (enc : α → D) (xs : List α) (g : α → D) (hit : it env = ret (xs.map enc)) (hno : noOwn vs env = true)
    (h : ∀ x ∈ xs, ∃ e1, stT tg (enc x) (killE vs env) = some e1 ∧ te e1 = ret (g x)) (hl : xs.length ≤ sizeLine) (hq : Q (.lst (xs.map g)) n) : lcT tg it yesT te vs env n Q X := by
  rw [lcT_all enc xs g hit hno h hl]
  exact hq
theorem bools_mapF {α : Type} (f : α → Bool) (xs : List α) : bools (xs.map fun x => D.bl (f x)) = some (xs.map f) := by
  have := bools_map (xs.map f)
  rw [List.map_map] at this
  exact this
theorem allD_map {α : Type} (f : α → Bool) (xs : List α) : allD (.lst (xs.map fun x => .bl (f x))) = ret (.bl (xs.all f)) := by
  unfold allD
  simp only [bools_mapF, List.all_map]
  rfl
theorem anyD_map {α : Type} (f : α → Bool) (xs : List α) : anyD (.lst (xs.map fun x => .bl (f x))) = ret (.bl (xs.any f)) := by
  unfold anyD
  simp only [bools_mapF, List.any_map]
  rfl
end DL
namespace DL
open PySem PySem.Spec L2
theorem le_sz {n : Nat} (h : n ≤ 1000) : n ≤ sizeLine := Nat.le_of_lt (small1000 h)
end DL

namespace DL
open PySem PySem.Spec L2
theorem bl_em (c : Bool) : D.bl c = D.bl true ∨ D.bl c = D.bl false := by cases c <;> simp
theorem bl_t {c : Bool} (h : D.bl c = D.bl true) : c = true := D.bl.inj h
theorem bl_f {c : Bool} (h : D.bl c = D.bl false) : c = false := D.bl.inj h
end DL
namespace DL
open PySem PySem.Spec L2
theorem rng1_eq {t : DE} {env : Env'} {j : Nat} (h : t env = ret (.int (j : Int))) (hj : j < 4611686018427387904) : rng1 t env = ret ((List.range j).map fun i : Nat => .int i) := by
  unfold rng1
  rw [h, bnd_ret]
  unfold r1D
  dsimp only
  rw [need_t ⟨by omega, by omega⟩]
  unfold rangeD
  simp
theorem rng1_neg {t : DE} {env : Env'} {j : Int} (h : t env = ret (.int j)) (h0 : j ≤ 0) (hj : -4611686018427387904 ≤ j) : rng1 t env = ret [] := by
  unfold rng1
  rw [h, bnd_ret]
  unfold r1D
  dsimp only
  rw [need_t ⟨by omega, by omega⟩]
  unfold rangeD
  rw [show j.toNat = 0 by omega]
  rfl
theorem strL_mk {α : Type} (f : α → Str) (xs : List α) : strL (xs.map fun x => D.str (f x)) = some (xs.map f) := by
  have := strL_map (xs.map f)
  rw [List.map_map] at this
  exact this
theorem filter_true {α : Type} (xs : List α) : xs.filter (fun _ => true) = xs := List.filter_eq_self.mpr fun _ _ => rfl
end DL

/-! typed computations, and how the data computations follow them -/
namespace DL
open PySem PySem.Spec L2

/-- a typed computation: a value, no value, an error, a drawn number -/
inductive Pg (α : Type) : Type
  | ret (a : α)
  | stop
  | throw (x : XD)
  | draw (m : Int) (k : Int → Pg α)
namespace Pg
variable {α β γ : Type}
def bind : Pg α → (α → Pg β) → Pg β
  | .ret a, f => f a
  | .stop, _ => .stop
  | .throw x, _ => .throw x
  | .draw m k, f => .draw m fun r => (k r).bind f
/-- what it means -/
def wp : Pg α → Nat → (α → Nat → Prop) → (XD → Nat → Prop) → Prop
  | .ret a, n, Q, _ => Q a n
  | .stop, _, _, _ => False
  | .throw x, n, _, X => X x n
  | .draw m k, n, Q, X => 0 < n ∧ 0 < m ∧ m < 1073741824 ∧ ∀ r : Int, 0 ≤ r → r < m → wp (k r) (n - 1) Q X
theorem bind_ret (a : α) (f : α → Pg β) : (Pg.ret a).bind f = f a := rfl
theorem bind_stop (f : α → Pg β) : (Pg.stop : Pg α).bind f = .stop := rfl
theorem bind_throw (x : XD) (f : α → Pg β) : (Pg.throw x : Pg α).bind f = .throw x := rfl
theorem bind_draw (m : Int) (k : Int → Pg α) (f : α → Pg β) : (Pg.draw m k).bind f = .draw m fun r => (k r).bind f := rfl
theorem ret_bind (p : Pg α) : p.bind .ret = p := by
  induction p with
  | draw m k ih => simp only [bind]; congr 1; funext r; exact ih r
  | _ => rfl
theorem bind_assoc (p : Pg α) (f : α → Pg β) (g : β → Pg γ) : (p.bind f).bind g = p.bind fun a => (f a).bind g := by
  induction p with
  | draw m k ih => simp only [bind]; congr 1; funext r; exact ih r
  | _ => rfl
theorem wp_bind {p : Pg α} {f : α → Pg β} : ∀ {n : Nat} {Q : β → Nat → Prop} {X : XD → Nat → Prop}, wp (p.bind f) n Q X ↔ wp p n (fun a n' => wp (f a) n' Q X) X := by
  induction p with
  | draw m k ih =>
    intro n Q X
    simp only [bind, wp]
    constructor
    · exact fun ⟨a, b, c, h⟩ => ⟨a, b, c, fun r h1 h2 => (ih r).mp (h r h1 h2)⟩
    · exact fun ⟨a, b, c, h⟩ => ⟨a, b, c, fun r h1 h2 => (ih r).mpr (h r h1 h2)⟩
  | _ => intros; exact Iff.rfl
theorem wp_mono {p : Pg α} : ∀ {n : Nat} {Q Q' : α → Nat → Prop} {X X' : XD → Nat → Prop}, (∀ a n, Q a n → Q' a n) → (∀ x n, X x n → X' x n) → wp p n Q X → wp p n Q' X' := by
  induction p with
  | ret a => exact fun h _ q => h _ _ q
  | stop => exact fun _ _ q => q
  | throw x => exact fun _ h q => h _ _ q
  | draw m k ih => exact fun h1 h2 ⟨a, b, c, h⟩ => ⟨a, b, c, fun r k1 k2 => ih r h1 h2 (h r k1 k2)⟩
def req (c : Prop) [Decidable c] (p : Pg α) : Pg α := if c then p else .stop
theorem wp_req {c : Prop} [Decidable c] {p : Pg α} {n : Nat} {Q : α → Nat → Prop} {X : XD → Nat → Prop} : wp (req c p) n Q X ↔ c ∧ wp p n Q X := by
  unfold req
  by_cases h : c
  · rw [if_pos h]; exact ⟨fun q => ⟨h, q⟩, fun q => q.2⟩
  · rw [if_neg h]; exact ⟨fun q => q.elim, fun q => absurd q.1 h⟩
theorem req_t {c : Prop} [Decidable c] {p : Pg α} (h : c) : req c p = p := if_pos h
/-- an error stops it -/
def nox : Pg α → Pg α
  | .ret a => .ret a
  | .stop => .stop
  | .throw _ => .stop
  | .draw m k => .draw m fun r => nox (k r)
theorem wp_nox {p : Pg α} : ∀ {n : Nat} {Q : α → Nat → Prop} {X : XD → Nat → Prop}, wp (nox p) n Q X ↔ wp p n Q fun _ _ => False := by
  induction p with
  | draw m k ih =>
    intro n Q X
    simp only [nox, wp]
    constructor
    · exact fun ⟨a, b, c, h⟩ => ⟨a, b, c, fun r h1 h2 => (ih r).mp (h r h1 h2)⟩
    · exact fun ⟨a, b, c, h⟩ => ⟨a, b, c, fun r h1 h2 => (ih r).mpr (h r h1 h2)⟩
  | _ => intros; exact Iff.rfl
/-- errors caught -/
def try_ : Pg α → (XD → Pg α) → Pg α
  | .ret a, _ => .ret a
  | .stop, _ => .stop
  | .throw x, h => h x
  | .draw m k, h => .draw m fun r => try_ (k r) h
theorem wp_try {p : Pg α} {h : XD → Pg α} : ∀ {n : Nat} {Q : α → Nat → Prop} {X : XD → Nat → Prop}, wp (try_ p h) n Q X ↔ wp p n Q fun x n' => wp (h x) n' Q X := by
  induction p with
  | draw m k ih =>
    intro n Q X
    simp only [try_, wp]
    constructor
    · exact fun ⟨a, b, c, h⟩ => ⟨a, b, c, fun r h1 h2 => (ih r).mp (h r h1 h2)⟩
    · exact fun ⟨a, b, c, h⟩ => ⟨a, b, c, fun r h1 h2 => (ih r).mpr (h r h1 h2)⟩
  | _ => intros; exact Iff.rfl
/-- item by item -/
def mapM (f : α → Pg β) : List α → Pg (List β)
  | [] => .ret []
  | x :: xs => (f x).bind fun y => (mapM f xs).bind fun ys => .ret (y :: ys)
/-- item by item, some left out -/
def mapO (f : α → Pg (Option β)) : List α → Pg (List β)
  | [] => .ret []
  | x :: xs => (f x).bind fun o => (mapO f xs).bind fun ys => .ret (match o with | none => ys | some y => y :: ys)
theorem mapM_ret {f : α → Pg β} {g : α → β} : ∀ {xs : List α}, (∀ x ∈ xs, f x = .ret (g x)) → mapM f xs = .ret (xs.map g)
  | [], _ => rfl
  | x :: xs, h => by simp only [mapM, h x List.mem_cons_self, bind, mapM_ret fun y hy => h y (List.mem_cons_of_mem _ hy), List.map_cons]
theorem mapO_ret {f : α → Pg (Option β)} {g : α → Option β} : ∀ {xs : List α}, (∀ x ∈ xs, f x = .ret (g x)) → mapO f xs = .ret (xs.filterMap g)
  | [], _ => rfl
  | x :: xs, h => by
    simp only [mapO, h x List.mem_cons_self, bind, mapO_ret fun y hy => h y (List.mem_cons_of_mem _ hy), List.filterMap_cons]
    cases g x <;> rfl
end Pg
/-- the end of a piece of text: it goes on, or leaves -/
inductive Ct (σ ε : Type) : Type
  | nx (s : σ)
  | ex (e : ε)
def Ct.elim {σ ε γ : Type} (f : σ → γ) (g : ε → γ) : Ct σ ε → γ
  | .nx s => f s
  | .ex e => g e
namespace Pg
variable {α β γ σ ρ : Type}
def foldP (body : α → σ → Pg σ) : List α → σ → Pg σ
  | [], s => .ret s
  | x :: xs, s => (body x s).bind fun s' => foldP body xs s'
def forP (body : α → σ → Pg (Ct σ ρ)) : List α → σ → Pg (Ct σ ρ)
  | [], s => .ret (.nx s)
  | x :: xs, s => (body x s).bind fun c => c.elim (fun s' => forP body xs s') fun r => .ret (.ex r)
def whP (cond : σ → Pg Bool) (body : σ → Pg (Ct σ ρ)) : Nat → σ → Pg (Ct σ ρ)
  | 0, _ => .stop
  | f + 1, s => (cond s).bind fun b => if b = true then ((body s).bind fun c => c.elim (fun s' => whP cond body f s') fun r => .ret (.ex r)) else .ret (.nx s)
def whF (cond : σ → Pg Bool) (body : σ → Pg σ) : Nat → σ → Pg σ
  | 0, _ => .stop
  | f + 1, s => (cond s).bind fun b => if b = true then (body s).bind fun s' => whF cond body f s' else .ret s
theorem foldP_ret {body : α → σ → Pg σ} {g : σ → α → σ} (I : σ → Prop) : ∀ {xs : List α} {s : σ}, I s → (∀ x ∈ xs, ∀ s, I s → body x s = .ret (g s x) ∧ I (g s x)) → foldP body xs s = .ret (xs.foldl g s)
  | [], s, _, _ => rfl
  | x :: xs, s, h0, h => by
    simp only [foldP, (h x List.mem_cons_self s h0).1, bind, List.foldl_cons]
    exact foldP_ret I (h x List.mem_cons_self s h0).2 fun y hy => h y (List.mem_cons_of_mem _ hy)
end Pg

/-! ### data computations that follow typed ones -/
section
variable {α β γ δ : Type}
def MP (m : Mo α) (a : α) : Prop := ∀ (n : Nat) (Q : α → Nat → Prop) (X : XD → Nat → Prop), Q a n → m n Q X
def ME (m : Mo β) (p : Pg α) (e : α → β) : Prop := ∀ (n : Nat) (Q : β → Nat → Prop) (X : XD → Nat → Prop), Pg.wp p n (fun a n' => Q (e a) n') X → m n Q X
theorem MP.ret {a : α} : MP (DL.ret a) a := fun _ _ _ h => h
theorem MP.me {m : Mo β} {e : α → β} {a : α} (h : MP m (e a)) : ME m (.ret a) e := fun n Q X q => h n Q X q
theorem MP.bnd {m : Mo α} {f : α → Mo β} {a : α} {b : β} (h : MP m a) (hf : MP (f a) b) : MP (DL.bnd m f) b := fun n Q X q => h n _ X (hf n Q X q)
theorem MP.bndE {m : Mo α} {f : α → Mo β} {a : α} {p : Pg γ} {e : γ → β} (h : MP m a) (hf : ME (f a) p e) : ME (DL.bnd m f) p e := fun n Q X q => h n _ X (hf n Q X q)
theorem ME.bnd {m : Mo β} {f : β → Mo δ} {p : Pg α} {e : α → β} {g : α → Pg γ} {e' : γ → δ} (h : ME m p e) (hf : ∀ a, ME (f (e a)) (g a) e') : ME (DL.bnd m f) (p.bind g) e' :=
  fun n Q X q => h n _ X (Pg.wp_mono (fun a n' q => hf a n' Q X q) (fun _ _ q => q) (Pg.wp_bind.mp q))
theorem ME.need {c c' : Prop} [Decidable c'] {m : Mo β} {p : Pg α} {e : α → β} (hc : c' → c) (h : ME m p e) : ME (DL.need c m) (Pg.req c' p) e := fun n Q X q => by
  obtain ⟨q1, q2⟩ := Pg.wp_req.mp q
  exact ⟨hc q1, h n Q X q2⟩
theorem ME.mono {m : Mo β} {p : Pg α} {e e' : α → β} (h : ME m p e) (he : ∀ a, e a = e' a) : ME m p e' := by
  have : e = e' := funext he
  rw [← this]; exact h
theorem ME.rw {m : Mo β} {p p' : Pg α} {e : α → β} (h : ME m p e) (hp : p = p') : ME m p' e := hp ▸ h
theorem MP.need {c : Prop} {m : Mo β} {b : β} (hc : c) (h : MP m b) : MP (DL.need c m) b := fun n Q X q => ⟨hc, h n Q X q⟩
theorem MP.eq {m : Mo α} {a b : α} (h : MP m a) (e : a = b) : MP m b := e ▸ h
theorem MP.of {m : Mo α} {a : α} (h : m = DL.ret a) : MP m a := fun n Q X q => by rw [h]; exact q
end
/-! expressions -/
section
variable {α β γ : Type} {ta tb tc t : DE} {env : Env'} {f : D → Mo D} {g : D → D → Mo D} {x y z : D} {e e1 e2 : α → D} {eb : β → D} {ec : γ → D} {pa : Pg α} {pb : α → Pg β} {pc : Pg γ}
theorem vS_p {i : Nat} {d : D} (h : env[i]? = some (.val d)) : MP (vS i env) d := fun n Q X q => by unfold vS; rw [h]; exact q
theorem vW_p {i : Nat} {d : D} (h : env[i]? = some (.val d)) : MP (vW i env) d := fun n Q X q => by unfold vW; rw [h]; exact q
theorem vO_p {i : Nat} {d : D} (h : env[i]? = some (.own d)) : MP (vW i env) d := fun n Q X q => by unfold vW; rw [h]; exact q
theorem kD_p {d : D} : MP (kD d env) d := fun _ _ _ q => q
theorem bin2_PP (ha : MP (ta env) x) (hb : MP (tb env) y) (h : MP (g x y) z) : MP (bin2 ta tb g env) z := MP.bnd ha (MP.bnd hb h)
theorem bin2_PPE {p : Pg γ} (ha : MP (ta env) x) (hb : MP (tb env) y) (h : ME (g x y) p ec) : ME (bin2 ta tb g env) p ec := MP.bndE ha (MP.bndE hb h)
theorem bin2_PE {p : Pg β} {q : β → Pg γ} (ha : MP (ta env) x) (hb : ME (tb env) p eb) (h : ∀ b, ME (g x (eb b)) (q b) ec) : ME (bin2 ta tb g env) (p.bind q) ec := MP.bndE ha (ME.bnd hb h)
theorem bin2_EP {p : Pg α} {q : α → Pg γ} (ha : ME (ta env) p e) (hb : MP (tb env) y) (h : ∀ a, ME (g (e a) y) (q a) ec) : ME (bin2 ta tb g env) (p.bind q) ec := ME.bnd ha fun a => MP.bndE hb (h a)
theorem bin2_EE {p : Pg α} {p2 : Pg β} {q : α → β → Pg γ} (ha : ME (ta env) p e) (hb : ME (tb env) p2 eb) (h : ∀ a b, ME (g (e a) (eb b)) (q a b) ec) : ME (bin2 ta tb g env) (p.bind fun a => p2.bind fun b => q a b) ec := ME.bnd ha fun a => ME.bnd hb (h a)
theorem un1_P (ha : MP (ta env) x) (h : MP (f x) z) : MP (un1 ta f env) z := MP.bnd ha h
theorem un1_PE {p : Pg γ} (ha : MP (ta env) x) (h : ME (f x) p ec) : ME (un1 ta f env) p ec := MP.bndE ha h
theorem un1_E {p : Pg α} {q : α → Pg γ} (ha : ME (ta env) p e) (h : ∀ a, ME (f (e a)) (q a) ec) : ME (un1 ta f env) (p.bind q) ec := ME.bnd ha h
theorem notT_P {b : Bool} (ha : MP (ta env) (.bl b)) : MP (notT ta env) (.bl (!b)) := MP.bnd ha (by cases b <;> exact MP.ret)
theorem notT_E {p : Pg Bool} (ha : ME (ta env) p D.bl) : ME (notT ta env) (p.bind fun b => .ret (!b)) D.bl := ME.bnd ha fun b => MP.me (by cases b <;> exact MP.ret)
theorem andT_PP {a b : Bool} (ha : MP (ta env) (.bl a)) (hb : MP (tb env) (.bl b)) : MP (andT ta tb env) (.bl (a && b)) := fun n Q X q => ha n _ X (by
  cases a
  · exact q
  · exact hb n _ X (by cases b <;> exact q))
theorem andT_PE {a : Bool} {p : Pg Bool} (ha : MP (ta env) (.bl a)) (hb : ME (tb env) p D.bl) : ME (andT ta tb env) (if a = true then p else .ret false) D.bl := by
  refine MP.bndE ha ?_
  cases a
  · exact MP.me MP.ret
  · exact fun n Q X q => hb n _ X (Pg.wp_mono (fun b n' q => by cases b <;> exact q) (fun _ _ q => q) q)
theorem andT_E {p : Pg Bool} {q : Pg Bool} (ha : ME (ta env) p D.bl) (hb : ME (tb env) q D.bl) : ME (andT ta tb env) (p.bind fun a => if a = true then q else .ret false) D.bl := by
  refine ME.bnd ha fun a => ?_
  cases a
  · exact MP.me MP.ret
  · exact fun n Q X q => hb n _ X (Pg.wp_mono (fun b n' q => by cases b <;> exact q) (fun _ _ q => q) q)
theorem orT_PP {a b : Bool} (ha : MP (ta env) (.bl a)) (hb : MP (tb env) (.bl b)) : MP (orT ta tb env) (.bl (a || b)) := fun n Q X q => ha n _ X (by
  cases a
  · exact hb n _ X (by cases b <;> exact q)
  · exact q)
theorem orT_PE {a : Bool} {p : Pg Bool} (ha : MP (ta env) (.bl a)) (hb : ME (tb env) p D.bl) : ME (orT ta tb env) (if a = true then .ret true else p) D.bl := by
  refine MP.bndE ha ?_
  cases a
  · exact fun n Q X q => hb n _ X (Pg.wp_mono (fun b n' q => by cases b <;> exact q) (fun _ _ q => q) q)
  · exact MP.me MP.ret
theorem orT_E {p : Pg Bool} {q : Pg Bool} (ha : ME (ta env) p D.bl) (hb : ME (tb env) q D.bl) : ME (orT ta tb env) (p.bind fun a => if a = true then .ret true else q) D.bl := by
  refine ME.bnd ha fun a => ?_
  cases a
  · exact fun n Q X q => hb n _ X (Pg.wp_mono (fun b n' q => by cases b <;> exact q) (fun _ _ q => q) q)
  · exact MP.me MP.ret
theorem ifT_P {c : Bool} {a b : α} (hc : MP (tc env) (.bl c)) (ha : MP (ta env) (e a)) (hb : MP (tb env) (e b)) : MP (ifT tc ta tb env) (e (if c = true then a else b)) :=
  MP.bnd hc (by cases c; exact hb; exact ha)
theorem ifT_PE {c : Bool} {p q : Pg α} (hc : MP (tc env) (.bl c)) (ha : ME (ta env) p e) (hb : ME (tb env) q e) : ME (ifT tc ta tb env) (if c = true then p else q) e :=
  MP.bndE hc (by cases c; exact hb; exact ha)
theorem ifT_E {r : Pg Bool} {p q : Pg α} (hc : ME (tc env) r D.bl) (ha : ME (ta env) p e) (hb : ME (tb env) q e) : ME (ifT tc ta tb env) (r.bind fun c => if c = true then p else q) e :=
  ME.bnd hc fun c => by cases c; exact hb; exact ha
/-- none or not -/
def ifNo {γ : Type} (o : Option α) (p : γ) (q : α → γ) : γ := match o with
  | none => p
  | some a => q a
theorem ifT_no {env : Option α → Env'} {o : Option α} {p : Pg β} {q : α → Pg β} (hn : MP (tc (env none)) (.bl true)) (hs : ∀ a, MP (tc (env (some a))) (.bl false)) (ha : ME (ta (env none)) p eb) (hb : ∀ a, ME (tb (env (some a))) (q a) eb) : ME (ifT tc ta tb (env o)) (ifNo o p q) eb := by
  cases o with
  | none => exact MP.bndE hn ha
  | some a => exact MP.bndE (hs a) (hb a)
theorem ifT_some {env : Option α → Env'} {o : Option α} {p : Pg β} {q : α → Pg β} (hn : MP (tc (env none)) (.bl false)) (hs : ∀ a, MP (tc (env (some a))) (.bl true)) (ha : ∀ a, ME (ta (env (some a))) (q a) eb) (hb : ME (tb (env none)) p eb) : ME (ifT tc ta tb (env o)) (ifNo o p q) eb := by
  cases o with
  | none => exact MP.bndE hn hb
  | some a => exact MP.bndE (hs a) (ha a)
/-! slices -/
theorem noPart_p : MP (noPart env) none := fun _ _ _ q => q
theorem intPart_p {i : Int} (h : MP (t env) (.int i)) : MP (intPart t env) (some i) := MP.bnd h MP.ret
theorem intPart_e {p : Pg Int} (h : ME (t env) p D.int) : ME (intPart t env) p some := fun n Q X q => h n _ X (Pg.wp_mono (fun _ _ q => q) (fun _ _ q => q) q)
variable {o1 o2 : DO} {h3 : D → Option Int → Option Int → Mo D} {l h : Option Int}
theorem sl3_P (ha : MP (ta env) x) (hl : MP (o1 env) l) (hh : MP (o2 env) h) (hf : MP (h3 x l h) z) : MP (sl3 ta o1 o2 h3 env) z := MP.bnd ha (MP.bnd hl (MP.bnd hh hf))
theorem sl3_PE {p : Pg γ} (ha : MP (ta env) x) (hl : MP (o1 env) l) (hh : MP (o2 env) h) (hf : ME (h3 x l h) p ec) : ME (sl3 ta o1 o2 h3 env) p ec := MP.bndE ha (MP.bndE hl (MP.bndE hh hf))
theorem sl3_E {p : Pg α} {q : α → Pg γ} (ha : ME (ta env) p e) (hl : MP (o1 env) l) (hh : MP (o2 env) h) (hf : ∀ a, ME (h3 (e a) l h) (q a) ec) : ME (sl3 ta o1 o2 h3 env) (p.bind q) ec := ME.bnd ha fun a => MP.bndE hl (MP.bndE hh (hf a))
theorem sl3_EE {p : Pg α} {r : Pg (Option Int)} {s : Pg (Option Int)} {q : α → Option Int → Option Int → Pg γ} (ha : ME (ta env) p e) (hl : ME (o1 env) r id) (hh : ME (o2 env) s id) (hf : ∀ a l h, ME (h3 (e a) l h) (q a l h) ec) : ME (sl3 ta o1 o2 h3 env) (p.bind fun a => r.bind fun l => s.bind fun h => q a l h) ec :=
  ME.bnd ha fun a => ME.bnd hl fun l => ME.bnd hh fun h => hf a l h
/-! arguments -/
variable {u v : DA} {K : List D → Mo D} {d : D}
theorem arg0 {p : Pg γ} (h : ME (K []) p ec) : ME (bnd (nilA env) K) p ec := h
theorem argP {p : Pg γ} (h1 : MP (t env) d) (h2 : ME (bnd (u env) fun ds => K (d :: ds)) p ec) : ME (bnd (consA t u env) K) p ec := fun n Q X q => h1 n _ X (h2 n Q X q)
theorem argE {q : Pg α} {p : α → Pg γ} (h1 : ME (t env) q e) (h2 : ∀ a, ME (bnd (u env) fun ds => K (e a :: ds)) (p a) ec) : ME (bnd (consA t u env) K) (q.bind p) ec :=
  fun n Q X r => h1 n _ X (Pg.wp_mono (fun a n' q => h2 a n' Q X q) (fun _ _ q => q) (Pg.wp_bind.mp r))
theorem arg0P (h : MP (K []) x) : MP (bnd (nilA env) K) x := h
theorem argPP (h1 : MP (t env) d) (h2 : MP (bnd (u env) fun ds => K (d :: ds)) x) : MP (bnd (consA t u env) K) x := fun n Q X q => h1 n _ X (h2 n Q X q)
theorem tupT_e {p : Pg γ} (h : ME (bnd (u env) fun ds => need (ds.length ≤ sizeLine) (ret (.tup ds))) p ec) : ME (tupT u env) p ec := h
theorem tupT_p (h : MP (bnd (u env) fun ds => need (ds.length ≤ sizeLine) (ret (.tup ds))) x) : MP (tupT u env) x := h
theorem lstT_e {p : Pg γ} (h : ME (bnd (u env) fun ds => need (ds.length ≤ sizeLine) (ret (.lst ds))) p ec) : ME (lstT u env) p ec := h
theorem lstT_p (h : MP (bnd (u env) fun ds => need (ds.length ≤ sizeLine) (ret (.lst ds))) x) : MP (lstT u env) x := h
theorem disp_p {ds : List D} {f : List D → D} (h : ds.length ≤ 1000) : MP (need (ds.length ≤ sizeLine) (ret (f ds))) (f ds) := MP.need (le_sz h) MP.ret
theorem callT_e {m : MD} {p : Pg γ} (h : ME (bnd (u env) m) p ec) : ME (callT m u env) p ec := h
theorem callW_e {m : MD} {p : Pg γ} (h : ME (bnd (u env) fun ds => bnd (m ds) fun d => need (lf d = true) (ret d)) p ec) : ME (callW m u env) p ec := h
theorem callW_k {ds : List D} {m : MD} {p : Pg γ} (h : ME (m ds) p ec) (hl : ∀ a, lf (ec a) = true) : ME (bnd (m ds) fun d => need (lf d = true) (ret d)) p ec := fun n Q X q => h n _ X (Pg.wp_mono (fun a n' q => ⟨hl a, q⟩) (fun _ _ q => q) q)
end
end DL

/-! statements that follow typed computations -/
namespace DL
open PySem PySem.Spec L2
section
variable {α β γ σ ρ : Type}
abbrev JK := Nat → EV
/-- the statement follows the typed computation; J: what its ends mean -/
def Blk (t : DS) (env : Env') (m : Pg γ) (J : DK → γ → Nat → Prop) : Prop := ∀ (k : DK) (Xd : XD → Nat → Prop) (n : Nat), Pg.wp m n (J k) Xd → t env k (fun _ => Xd) n
/-- a def's end -/
def JF (e : ρ → D) : DK → ρ → Nat → Prop := fun k r n => k.rt (e r) n
/-- it goes on: the slots that are read later as told, the others anyhow -/
def JN (mk : σ → JK → Env') : DK → σ → Nat → Prop := fun k s n => ∀ j, k.nx (mk s j) n
def JC (mk : σ → JK → Env') (e : ρ → D) : DK → Ct σ ρ → Nat → Prop := fun k c n => match c with
  | .nx s => ∀ j, k.nx (mk s j) n
  | .ex r => k.rt (e r) n
/-- the end of a turn -/
def JG (ks : List Nat) (mk : σ → Env') : DK → σ → Nat → Prop := fun k s n => ∀ e', killE ks e' = mk s → k.ct e' n ∧ k.nx e' n
def JH (ks : List Nat) (mk : σ → Env') (e : ρ → D) : DK → Ct σ ρ → Nat → Prop := fun k c n => match c with
  | .nx s => ∀ e', killE ks e' = mk s → k.ct e' n ∧ k.nx e' n
  | .ex r => k.rt (e r) n
def memN (i : Nat) : List Nat → Bool
  | [] => false
  | k :: ks => bif Nat.beq i k then true else memN i ks
/-- killE, place by place -/
def kil (ks : List Nat) : Nat → Env' → Env'
  | _, [] => []
  | i, x :: xs => (bif memN i ks then EV.no else x) :: kil ks (i + 1) xs
theorem kil_get (ks : List Nat) : ∀ (env : Env') (i j : Nat), (kil ks i env)[j]? = (env[j]?).map fun x => bif memN (i + j) ks then EV.no else x
  | [], _, _ => by simp [kil]
  | x :: xs, i, 0 => by simp [kil]
  | x :: xs, i, j + 1 => by
    simp only [kil, List.getElem?_cons_succ, kil_get ks xs (i + 1) j, show i + 1 + j = i + (j + 1) from by omega]
theorem killE_get : ∀ (ks : List Nat) (env : Env') (j : Nat), (killE ks env)[j]? = (env[j]?).map fun x => bif memN j ks then EV.no else x
  | [], env, j => by simp [killE, memN]
  | k :: ks, env, j => by
    show ((killE ks env).set k .no)[j]? = _
    rw [List.getElem?_set]
    by_cases h : k = j
    · subst h
      have hb : Nat.beq k k = true := by simp
      have hl : (killE ks env).length = env.length := by
        clear hb
        induction ks with
        | nil => rfl
        | cons a l ih => show ((killE l env).set a .no).length = _; rw [List.length_set]; exact ih
      simp only [if_true, memN, hb, cond_true, hl]
      by_cases q : k < env.length
      · rw [if_pos q, List.getElem?_eq_getElem q]; rfl
      · rw [if_neg q, List.getElem?_eq_none (by omega)]; rfl
    · have hb : Nat.beq j k = false := by
        cases e : Nat.beq j k
        · rfl
        · exact absurd (Nat.eq_of_beq_eq_true e).symm h
      rw [if_neg h, killE_get ks env j]
      simp only [memN, hb, cond_false]
theorem kil_eq (ks : List Nat) (env : Env') : killE ks env = kil ks 0 env := by
  apply List.ext_getElem?
  intro j
  rw [killE_get, kil_get, Nat.zero_add]
variable {t u a b : DS} {env env' : Env'} {m m2 : Pg γ} {J : DK → γ → Nat → Prop} {e : DE} {i : Nat} {d : D} {ea : α → D} {er : ρ → D} {p : Pg α} {l : List D}
theorem b_skip (h : Blk u env m J) : Blk (seqS skipS u) env m J := h
theorem b_assoc {s : DS} (h : Blk (seqS s (seqS t u)) env m J) : Blk (seqS (seqS s t) u) env m J := h
theorem b_endN {mk : σ → JK → Env'} {s : σ} (j : JK) (h : mk s j = env) : Blk skipS env (.ret s) (JN mk) := fun k Xd n q => by
  have := q j
  rw [h] at this; exact this
theorem b_endC {mk : σ → JK → Env'} {s : σ} (j : JK) (h : mk s j = env) : Blk skipS env (.ret (.nx s)) (JC mk er) := fun k Xd n q => by
  have := q j
  rw [h] at this; exact this
theorem b_endG {ks : List Nat} {mk : σ → Env'} {s : σ} (h : kil ks 0 env = mk s) : Blk skipS env (.ret s) (JG ks mk) := fun k Xd n q => (q env ((kil_eq _ _).trans h)).2
theorem b_endH {ks : List Nat} {mk : σ → Env'} {s : σ} (h : kil ks 0 env = mk s) : Blk skipS env (.ret (.nx s)) (JH ks mk er) := fun k Xd n q => (q env ((kil_eq _ _).trans h)).2
theorem b_contG {ks : List Nat} {mk : σ → Env'} {s : σ} (h : kil ks 0 env = mk s) : Blk (seqS contS u) env (.ret s) (JG ks mk) := fun k Xd n q => (q env ((kil_eq _ _).trans h)).1
theorem b_contH {ks : List Nat} {mk : σ → Env'} {s : σ} (h : kil ks 0 env = mk s) : Blk (seqS contS u) env (.ret (.nx s)) (JH ks mk er) := fun k Xd n q => (q env ((kil_eq _ _).trans h)).1
theorem b_endF {r : ρ} (h : er r = .non) : Blk (seqS retNS u) env (.ret r) (JF er) := fun k Xd n q => by
  show k.rt .non n
  rw [← h]; exact q
/-- an end's own form: how a value that is returned stands there -/
def Inj (J : DK → γ → Nat → Prop) (er : ρ → D) (inj : ρ → γ) : Prop := ∀ k r n, J k (inj r) n → k.rt (er r) n
theorem inj_F : Inj (JF er) er id := fun _ _ _ q => q
theorem inj_C {mk : σ → JK → Env'} : Inj (JC mk er) er .ex := fun _ _ _ q => q
theorem inj_H {ks : List Nat} {mk : σ → Env'} : Inj (JH ks mk er) er .ex := fun _ _ _ q => q
theorem b_ret {r : ρ} {inj : ρ → γ} (hi : Inj J er inj) (h : MP (e env) (er r)) : Blk (seqS (retS e) u) env (.ret (inj r)) J := fun k Xd n q => h n _ _ (hi k r n q)
theorem b_retE {p : Pg ρ} {inj : ρ → γ} (hi : Inj J er inj) (h : ME (e env) p er) : Blk (seqS (retS e) u) env (p.bind fun r => .ret (inj r)) J := fun k Xd n q =>
  h n _ _ (Pg.wp_mono (fun r n' q => hi k r n' q) (fun _ _ q => q) (Pg.wp_bind.mp q))
theorem b_retF {r : ρ} (h : MP (e env) (er r)) : Blk (seqS (retS e) u) env (.ret r) (JF er) := fun k Xd n q => h n _ _ q
theorem b_retFE {p : Pg ρ} (h : ME (e env) p er) : Blk (seqS (retS e) u) env p (JF er) := fun k Xd n q => h n _ _ q
theorem b_seqN {mk : σ → JK → Env'} {m1 : Pg σ} {m2 : σ → Pg γ} (h1 : Blk t env m1 (JN mk)) (h2 : ∀ s j, Blk u (mk s j) (m2 s) J) : Blk (seqS t u) env (m1.bind m2) J := fun k Xd n q =>
  h1 { k with nx := fun e n' => u e k (fun _ => Xd) n' } Xd n (Pg.wp_mono (fun s n' q j => h2 s j k Xd n' q) (fun _ _ q => q) (Pg.wp_bind.mp q))
theorem b_seqC {mk : σ → JK → Env'} {m1 : Pg (Ct σ ρ)} {m2 : σ → Pg γ} {inj : ρ → γ} (hi : Inj J er inj) (h1 : Blk t env m1 (JC mk er)) (h2 : ∀ s j, Blk u (mk s j) (m2 s) J) : Blk (seqS t u) env (m1.bind (Ct.elim m2 fun r => .ret (inj r))) J := fun k Xd n q =>
  h1 { k with nx := fun e n' => u e k (fun _ => Xd) n' } Xd n (Pg.wp_mono (fun c n' q => by
    cases c with
    | nx s => exact fun j => h2 s j k Xd n' q
    | ex r => exact hi k r n' q) (fun _ _ q => q) (Pg.wp_bind.mp q))
theorem b_asg (h : MP (e env) d) (he : env.set i (.val d) = env') (hu : Blk u env' m J) : Blk (seqS (asgS i e) u) env m J := fun k Xd n q => h n _ _ (by
  show u (env.set i (.val d)) k _ n
  rw [he]; exact hu k Xd n q)
theorem b_asgE {env' : α → Env'} {m : α → Pg γ} (h : ME (e env) p ea) (he : ∀ a, env.set i (.val (ea a)) = env' a) (hu : ∀ a, Blk u (env' a) (m a) J) : Blk (seqS (asgS i e) u) env (p.bind m) J := fun k Xd n q =>
  h n _ _ (Pg.wp_mono (fun a n' q => by
    show u (env.set i (.val (ea a))) k _ n'
    rw [he]; exact hu a k Xd n' q) (fun _ _ q => q) (Pg.wp_bind.mp q))
theorem b_asgO (h : MP (e env) d) (hl : decide (i < env.length) = true) (he : env.set i (.own d) = env') (hu : Blk u env' m J) : Blk (seqS (asgO i e) u) env m J := fun k Xd n q => h n _ _ ⟨of_decide_eq_true hl, (by
  show u (env.set i (.own d)) k _ n
  rw [he]; exact hu k Xd n q)⟩
theorem b_asgOE {env' : α → Env'} {m : α → Pg γ} (h : ME (e env) p ea) (hl : decide (i < env.length) = true) (he : ∀ a, env.set i (.own (ea a)) = env' a) (hu : ∀ a, Blk u (env' a) (m a) J) : Blk (seqS (asgO i e) u) env (p.bind m) J := fun k Xd n q =>
  h n _ _ (Pg.wp_mono (fun a n' q => ⟨of_decide_eq_true hl, (by
    show u (env.set i (.own (ea a))) k _ n'
    rw [he]; exact hu a k Xd n' q)⟩) (fun _ _ q => q) (Pg.wp_bind.mp q))
theorem b_frz (he : frzE i env = env') (hu : Blk u env' m J) : Blk (seqS (frzS i) u) env m J := fun k Xd n q => by
  show u (frzE i env) k _ n
  rw [he]; exact hu k Xd n q
theorem b_drop (h : MP (e env) d) (hu : Blk u env m J) : Blk (seqS (dropS e) u) env m J := fun k Xd n q => h n _ _ (hu k Xd n q)
theorem b_dropE {m : α → Pg γ} (h : ME (e env) p ea) (hu : ∀ a, Blk u env (m a) J) : Blk (seqS (dropS e) u) env (p.bind m) J := fun k Xd n q =>
  h n _ _ (Pg.wp_mono (fun a n' q => hu a k Xd n' q) (fun _ _ q => q) (Pg.wp_bind.mp q))
theorem b_unp {tg : Tg} (h : MP (e env) d) (he : stT tg d env = some env') (hu : Blk u env' m J) : Blk (seqS (unpS tg e) u) env m J := fun k Xd n q => h n _ _ (by
  dsimp only [seqS]
  rw [he]; exact hu k Xd n q)
theorem b_unpE {tg : Tg} {env' : α → Env'} {m : α → Pg γ} (h : ME (e env) p ea) (he : ∀ a, stT tg (ea a) env = some (env' a)) (hu : ∀ a, Blk u (env' a) (m a) J) : Blk (seqS (unpS tg e) u) env (p.bind m) J := fun k Xd n q =>
  h n _ _ (Pg.wp_mono (fun a n' q => by
    dsimp only [seqS]
    rw [he]; exact hu a k Xd n' q) (fun _ _ q => q) (Pg.wp_bind.mp q))
/-! lists that grow -/
def Pg.app (xs : List α) (x : α) (m : List α → Pg γ) : Pg γ := Pg.req (xs.length < sizeLine) (m (xs ++ [x]))
def Pg.ext (xs ys : List α) (m : List α → Pg γ) : Pg γ := Pg.req (xs.length + ys.length ≤ sizeLine) (m (xs ++ ys))
theorem b_app {xs : List α} {x : α} {env' : List α → Env'} {m : List α → Pg γ} (h0 : ownL env i = some (xs.map ea)) (h : MP (e env) (ea x)) (he : ∀ ys, env.set i (.own (.lst (ys.map ea))) = env' ys) (hu : ∀ ys, Blk u (env' ys) (m ys) J) :
    Blk (seqS (appS i e) u) env (Pg.app xs x m) J := fun k Xd n q => by
  obtain ⟨q1, q2⟩ := Pg.wp_req.mp q
  dsimp only [seqS, appS]
  rw [h0]
  refine h n _ _ ⟨by simpa using q1, ?_⟩
  have := hu _ k Xd n q2
  rw [← he] at this
  simpa using this
theorem b_appE {xs : List α} {env' : List α → Env'} {m : List α → Pg γ} (h0 : ownL env i = some (xs.map ea)) (h : ME (e env) p ea) (he : ∀ ys, env.set i (.own (.lst (ys.map ea))) = env' ys) (hu : ∀ ys, Blk u (env' ys) (m ys) J) :
    Blk (seqS (appS i e) u) env (p.bind fun x => Pg.app xs x m) J := fun k Xd n q => by
  dsimp only [seqS, appS]
  rw [h0]
  refine h n _ _ (Pg.wp_mono (fun x n' q => ?_) (fun _ _ q => q) (Pg.wp_bind.mp q))
  obtain ⟨q1, q2⟩ := Pg.wp_req.mp q
  refine ⟨by simpa using q1, ?_⟩
  have := hu _ k Xd n' q2
  rw [← he] at this
  simpa using this
theorem b_ext {xs ys : List α} {env' : List α → Env'} {m : List α → Pg γ} (h0 : ownL env i = some (xs.map ea)) (h : MP (e env) d) (hr : rowD d = some (ys.map ea)) (he : ∀ ys, env.set i (.own (.lst (ys.map ea))) = env' ys) (hu : ∀ ys, Blk u (env' ys) (m ys) J) :
    Blk (seqS (extS i e) u) env (Pg.ext xs ys m) J := fun k Xd n q => by
  obtain ⟨q1, q2⟩ := Pg.wp_req.mp q
  dsimp only [seqS, extS]
  rw [h0]
  refine h n _ _ ?_
  rw [hr]
  refine ⟨by simpa using q1, ?_⟩
  have := hu _ k Xd n q2
  rw [← he] at this
  simpa using this
theorem b_extE {xs : List α} {q : Pg (List α)} {eb : List α → D} {env' : List α → Env'} {m : List α → Pg γ} (h0 : ownL env i = some (xs.map ea)) (h : ME (e env) q eb) (hr : ∀ ys, rowD (eb ys) = some (ys.map ea)) (he : ∀ ys, env.set i (.own (.lst (ys.map ea))) = env' ys) (hu : ∀ ys, Blk u (env' ys) (m ys) J) :
    Blk (seqS (extS i e) u) env (q.bind fun ys => Pg.ext xs ys m) J := fun k Xd n q => by
  dsimp only [seqS, extS]
  rw [h0]
  refine h n _ _ (Pg.wp_mono (fun ys n' q => ?_) (fun _ _ q => q) (Pg.wp_bind.mp q))
  obtain ⟨q1, q2⟩ := Pg.wp_req.mp q
  rw [hr]
  refine ⟨by simpa using q1, ?_⟩
  have := hu _ k Xd n' q2
  rw [← he] at this
  simpa using this
/-! if -/
theorem b_ite {c : Bool} (hc : MP (e env) (.bl c)) (ha : Blk (seqS a u) env m J) (hb : Blk (seqS b u) env m2 J) : Blk (seqS (iteS e a b) u) env (if c = true then m else m2) J := fun k Xd n q => hc n _ _ (by
  cases c with
  | true => exact ⟨fun _ => ha k Xd n q, fun z => (by cases z), .inl rfl⟩
  | false => exact ⟨fun z => (by cases z), fun _ => hb k Xd n q, .inr rfl⟩)
theorem b_iteE {p : Pg Bool} (hc : ME (e env) p D.bl) (ha : Blk (seqS a u) env m J) (hb : Blk (seqS b u) env m2 J) : Blk (seqS (iteS e a b) u) env (p.bind fun c => if c = true then m else m2) J := fun k Xd n q =>
  hc n _ _ (Pg.wp_mono (fun c n' q => by
    cases c with
    | true => exact ⟨fun _ => ha k Xd n' q, fun z => (by cases z), .inl rfl⟩
    | false => exact ⟨fun z => (by cases z), fun _ => hb k Xd n' q, .inr rfl⟩) (fun _ _ q => q) (Pg.wp_bind.mp q))
theorem b_no {envf : Option α → Env'} {o : Option α} {m2 : α → Pg γ} (hn : MP (e (envf none)) (.bl true)) (hs : ∀ x, MP (e (envf (some x))) (.bl false)) (ha : Blk (seqS a u) (envf none) m J) (hb : ∀ x, Blk (seqS b u) (envf (some x)) (m2 x) J) :
    Blk (seqS (iteS e a b) u) (envf o) (ifNo o m m2) J := by
  cases o with
  | none => exact fun k Xd n q => hn n _ _ ⟨fun _ => ha k Xd n q, fun z => (by cases z), .inl rfl⟩
  | some x => exact fun k Xd n q => hs x n _ _ ⟨fun z => (by cases z), fun _ => hb x k Xd n q, .inr rfl⟩
theorem b_some {envf : Option α → Env'} {o : Option α} {m2 : α → Pg γ} (hn : MP (e (envf none)) (.bl false)) (hs : ∀ x, MP (e (envf (some x))) (.bl true)) (ha : ∀ x, Blk (seqS a u) (envf (some x)) (m2 x) J) (hb : Blk (seqS b u) (envf none) m J) :
    Blk (seqS (iteS e a b) u) (envf o) (ifNo o m m2) J := by
  cases o with
  | none => exact fun k Xd n q => hn n _ _ ⟨fun z => (by cases z), fun _ => hb k Xd n q, .inr rfl⟩
  | some x => exact fun k Xd n q => hs x n _ _ ⟨fun _ => ha x k Xd n q, fun z => (by cases z), .inl rfl⟩
/-- as the last of a row -/
theorem b_last (h : Blk (seqS t skipS) env m J) : Blk t env m J := h
/-! loops -/
variable {it : DI} {tg : Tg} {ks : List Nat} {bd : DS} {q : Pg (List α)} {xs : List α} {ex : α → D}
theorem forL_f {body : α → σ → Pg σ} {mk : σ → Env'} (hb : ∀ x s, ∃ e1, stT tg (ex x) (mk s) = some e1 ∧ Blk bd e1 (body x s) (JG ks mk)) : ∀ (xs : List α) (s : σ), Blk (forL tg ks bd (xs.map ex)) (mk s) (Pg.foldP body xs s) (JN fun s _ => mk s)
  | [], s => fun k Xd n q => q fun _ => .no
  | x :: xs, s => fun k Xd n q => by
    obtain ⟨e1, h1, h2⟩ := hb x s
    simp only [List.map_cons, forL, h1]
    refine h2 _ Xd n (Pg.wp_mono (fun s' n' q => ?_) (fun _ _ q => q) (Pg.wp_bind.mp q))
    intro e' he
    dsimp only
    rw [he]
    exact ⟨forL_f hb xs s' k Xd n' q, forL_f hb xs s' k Xd n' q⟩
theorem forL_c {body : α → σ → Pg (Ct σ ρ)} {mk : σ → Env'} (hb : ∀ x s, ∃ e1, stT tg (ex x) (mk s) = some e1 ∧ Blk bd e1 (body x s) (JH ks mk er)) : ∀ (xs : List α) (s : σ), Blk (forL tg ks bd (xs.map ex)) (mk s) (Pg.forP body xs s) (JC (fun s _ => mk s) er)
  | [], s => fun k Xd n q => q fun _ => .no
  | x :: xs, s => fun k Xd n q => by
    obtain ⟨e1, h1, h2⟩ := hb x s
    simp only [List.map_cons, forL, h1]
    refine h2 _ Xd n (Pg.wp_mono (fun c n' q => ?_) (fun _ _ q => q) (Pg.wp_bind.mp q))
    cases c with
    | nx s' =>
      intro e' he
      dsimp only
      rw [he]
      exact ⟨forL_c hb xs s' k Xd n' q, forL_c hb xs s' k Xd n' q⟩
    | ex r => exact q
theorem b_forP {body : α → σ → Pg σ} {mk : σ → Env'} {s0 : σ} (hit : MP (it env) (xs.map ex)) (h0 : kil ks 0 env = mk s0) (hb : ∀ x s, ∃ e1, stT tg (ex x) (mk s) = some e1 ∧ Blk bd e1 (body x s) (JG ks mk)) : Blk (forS tg ks it bd) env (Pg.foldP body xs s0) (JN fun s _ => mk s) :=
  fun k Xd n q => hit n _ _ (by
    rw [kil_eq, h0]; exact forL_f hb xs s0 k Xd n q)
theorem b_forE {body : α → σ → Pg σ} {mk : σ → Env'} {s0 : σ} (hit : ME (it env) q (List.map ex)) (h0 : kil ks 0 env = mk s0) (hb : ∀ x s, ∃ e1, stT tg (ex x) (mk s) = some e1 ∧ Blk bd e1 (body x s) (JG ks mk)) : Blk (forS tg ks it bd) env (q.bind fun xs => Pg.foldP body xs s0) (JN fun s _ => mk s) :=
  fun k Xd n w => hit n _ _ (Pg.wp_mono (fun xs n' w => by
    rw [kil_eq, h0]; exact forL_f hb xs s0 k Xd n' w) (fun _ _ w => w) (Pg.wp_bind.mp w))
theorem b_forCP {body : α → σ → Pg (Ct σ ρ)} {mk : σ → Env'} {s0 : σ} (hit : MP (it env) (xs.map ex)) (h0 : kil ks 0 env = mk s0) (hb : ∀ x s, ∃ e1, stT tg (ex x) (mk s) = some e1 ∧ Blk bd e1 (body x s) (JH ks mk er)) : Blk (forS tg ks it bd) env (Pg.forP body xs s0) (JC (fun s _ => mk s) er) :=
  fun k Xd n q => hit n _ _ (by
    rw [kil_eq, h0]; exact forL_c hb xs s0 k Xd n q)
theorem b_forCE {body : α → σ → Pg (Ct σ ρ)} {mk : σ → Env'} {s0 : σ} (hit : ME (it env) q (List.map ex)) (h0 : kil ks 0 env = mk s0) (hb : ∀ x s, ∃ e1, stT tg (ex x) (mk s) = some e1 ∧ Blk bd e1 (body x s) (JH ks mk er)) : Blk (forS tg ks it bd) env (q.bind fun xs => Pg.forP body xs s0) (JC (fun s _ => mk s) er) :=
  fun k Xd n w => hit n _ _ (Pg.wp_mono (fun xs n' w => by
    rw [kil_eq, h0]; exact forL_c hb xs s0 k Xd n' w) (fun _ _ w => w) (Pg.wp_bind.mp w))
theorem whL_f {cond : σ → Pg Bool} {body : σ → Pg σ} {mk : σ → Env'} (hc : ∀ s, ME (e (mk s)) (cond s) D.bl) (hb : ∀ s, Blk bd (mk s) (body s) (JG ks mk)) : ∀ (f : Nat) (s : σ), Blk (whL e ks bd f) (mk s) (Pg.whF cond body f s) (JN fun s _ => mk s)
  | 0, s => fun k Xd n q => q
  | f + 1, s => fun k Xd n q => by
    unfold whL
    refine hc s n _ _ (Pg.wp_mono (fun c n' q => ?_) (fun _ _ q => q) (Pg.wp_bind.mp q))
    cases c with
    | true =>
      refine ⟨fun _ => ?_, fun z => (by cases z), .inl rfl⟩
      refine hb s _ Xd n' (Pg.wp_mono (fun s' n' q => ?_) (fun _ _ q => q) (Pg.wp_bind.mp q))
      intro e' he
      dsimp only
      rw [he]
      exact ⟨whL_f hc hb f s' k Xd n' q, whL_f hc hb f s' k Xd n' q⟩
    | false => exact ⟨fun z => (by cases z), fun _ => q fun _ => .no, .inr rfl⟩
theorem whL_c {cond : σ → Pg Bool} {body : σ → Pg (Ct σ ρ)} {mk : σ → Env'} (hc : ∀ s, ME (e (mk s)) (cond s) D.bl) (hb : ∀ s, Blk bd (mk s) (body s) (JH ks mk er)) : ∀ (f : Nat) (s : σ), Blk (whL e ks bd f) (mk s) (Pg.whP cond body f s) (JC (fun s _ => mk s) er)
  | 0, s => fun k Xd n q => q
  | f + 1, s => fun k Xd n q => by
    unfold whL
    refine hc s n _ _ (Pg.wp_mono (fun c n' q => ?_) (fun _ _ q => q) (Pg.wp_bind.mp q))
    cases c with
    | true =>
      refine ⟨fun _ => ?_, fun z => (by cases z), .inl rfl⟩
      refine hb s _ Xd n' (Pg.wp_mono (fun c n' q => ?_) (fun _ _ q => q) (Pg.wp_bind.mp q))
      cases c with
      | nx s' =>
        intro e' he
        dsimp only
        rw [he]
        exact ⟨whL_c hc hb f s' k Xd n' q, whL_c hc hb f s' k Xd n' q⟩
      | ex r => exact q
    | false => exact ⟨fun z => (by cases z), fun _ => q fun _ => .no, .inr rfl⟩
theorem b_wh {cond : σ → Pg Bool} {body : σ → Pg σ} {mk : σ → Env'} {s0 : σ} (f : Nat) (h0 : kil ks 0 env = mk s0) (hc : ∀ s, ME (e (mk s)) (cond s) D.bl) (hb : ∀ s, Blk bd (mk s) (body s) (JG ks mk)) : Blk (whS e ks bd) env (Pg.whF cond body f s0) (JN fun s _ => mk s) :=
  fun k Xd n q => ⟨f, by rw [kil_eq, h0]; exact whL_f hc hb f s0 k Xd n q⟩
theorem b_whC {cond : σ → Pg Bool} {body : σ → Pg (Ct σ ρ)} {mk : σ → Env'} {s0 : σ} (f : Nat) (h0 : kil ks 0 env = mk s0) (hc : ∀ s, ME (e (mk s)) (cond s) D.bl) (hb : ∀ s, Blk bd (mk s) (body s) (JH ks mk er)) : Blk (whS e ks bd) env (Pg.whP cond body f s0) (JC (fun s _ => mk s) er) :=
  fun k Xd n q => ⟨f, by rw [kil_eq, h0]; exact whL_c hc hb f s0 k Xd n q⟩
/-! comprehensions -/
variable {tt te : DE} {vs : List Nat} {eb : β → D}
/-- tests and elements without more -/
def Pg.lcF (p : α → Bool) (g : α → β) (xs : List α) : Pg (List β) := Pg.req (xs.length ≤ sizeLine) (.ret ((xs.filter p).map g))
def Pg.lcA (g : α → β) (xs : List α) : Pg (List β) := Pg.req (xs.length ≤ sizeLine) (.ret (xs.map g))
def Pg.lcO (f : α → Pg (Option β)) (xs : List α) : Pg (List β) := Pg.req (xs.length ≤ sizeLine) (Pg.nox (Pg.mapO f xs))
def Pg.lcM (f : α → Pg β) (xs : List α) : Pg (List β) := Pg.req (xs.length ≤ sizeLine) (Pg.nox (Pg.mapM f xs))
theorem filter_len {p : α → Bool} : ∀ xs : List α, (xs.filter p).length ≤ xs.length := fun xs => List.length_filter_le p xs
theorem lcL_e {env : Env'} (f : α → Pg (Option β)) (h : ∀ x, ∃ e1, stT tg (ex x) env = some e1 ∧ ∀ (n : Nat) (Q : Option β → Nat → Prop) (X : XD → Nat → Prop), Pg.wp (f x) n Q X → tt e1 n (fun d n' => (d = .bl false ∧ Q none n') ∨ (d = .bl true ∧ te e1 n' (fun y n2 => ∃ z, y = eb z ∧ Q (some z) n2) X)) X) (mono : ∀ e1, ∀ {n : Nat} {Q Q' : D → Nat → Prop} {X : XD → Nat → Prop}, (∀ d n, Q d n → Q' d n) → tt e1 n Q X → tt e1 n Q' X) (mono2 : ∀ e1, ∀ {n : Nat} {Q Q' : D → Nat → Prop} {X : XD → Nat → Prop}, (∀ d n, Q d n → Q' d n) → te e1 n Q X → te e1 n Q' X) : True := trivial
theorem lcL_m {env : Env'} {test : α → Pg Bool} {elt : α → Pg β} (h : ∀ x, ∃ e1, stT tg (ex x) env = some e1 ∧ ME (tt e1) (test x) D.bl ∧ ME (te e1) (elt x) eb) : ∀ (xs : List α) (acc : List D) (n : Nat) (Q : List D → Nat → Prop) (X : XD → Nat → Prop), acc.length + xs.length ≤ sizeLine →
    Pg.wp (Pg.mapO (fun x => (test x).bind fun c => if c = true then (elt x).bind fun y => .ret (some y) else .ret none) xs) n (fun l n' => Q (acc ++ l.map eb) n') X → lcL tg tt te env (xs.map ex) acc n Q X
  | [], acc, n, Q, X, hl, q => by
    simp only [Pg.mapO, Pg.wp, List.map_nil, List.append_nil] at q
    exact q
  | x :: xs, acc, n, Q, X, hl, q => by
    obtain ⟨e1, h1, h2, h3⟩ := h x
    simp only [List.map_cons, lcL, h1]
    simp only [List.length_cons] at hl
    have q := Pg.wp_bind.mp q
    have q := Pg.wp_bind.mp q
    refine h2 n _ X (Pg.wp_mono (fun c n1 q => ?_) (fun _ _ q => q) q)
    cases c with
    | true =>
      have q := Pg.wp_bind.mp (show Pg.wp ((elt x).bind fun y => .ret (some y)) _ _ _ from q)
      refine h3 n1 _ X (Pg.wp_mono (fun y n2 q => ?_) (fun _ _ q => q) q)
      refine ⟨by omega, ?_⟩
      refine lcL_m h xs (acc ++ [eb y]) n2 Q X (by simp; omega) ?_
      refine Pg.wp_mono (fun l n3 q => ?_) (fun _ _ q => q) (Pg.wp_bind.mp (show Pg.wp ((Pg.mapO _ xs).bind _) _ _ _ from q))
      simpa [Pg.wp] using q
    | false =>
      refine lcL_m h xs acc n1 Q X (by omega) ?_
      refine Pg.wp_mono (fun l n3 q => ?_) (fun _ _ q => q) (Pg.wp_bind.mp (show Pg.wp ((Pg.mapO _ xs).bind _) _ _ _ from q))
      simpa [Pg.wp] using q
theorem lcL_M {env : Env'} {elt : α → Pg β} (h : ∀ x, ∃ e1, stT tg (ex x) env = some e1 ∧ ME (te e1) (elt x) eb) : ∀ (xs : List α) (acc : List D) (n : Nat) (Q : List D → Nat → Prop) (X : XD → Nat → Prop), acc.length + xs.length ≤ sizeLine →
    Pg.wp (Pg.mapM elt xs) n (fun l n' => Q (acc ++ l.map eb) n') X → lcL tg yesT te env (xs.map ex) acc n Q X
  | [], acc, n, Q, X, hl, q => by
    simp only [Pg.mapM, Pg.wp, List.map_nil, List.append_nil] at q
    exact q
  | x :: xs, acc, n, Q, X, hl, q => by
    obtain ⟨e1, h1, h3⟩ := h x
    simp only [List.map_cons, lcL, h1]
    simp only [List.length_cons] at hl
    have q := Pg.wp_bind.mp q
    refine h3 n _ X (Pg.wp_mono (fun y n2 q => ?_) (fun _ _ q => q) q)
    refine ⟨by omega, ?_⟩
    refine lcL_M h xs (acc ++ [eb y]) n2 Q X (by simp; omega) ?_
    refine Pg.wp_mono (fun l n3 q => ?_) (fun _ _ q => q) (Pg.wp_bind.mp q)
    simpa [Pg.wp] using q
theorem lcT_d' {env : Env'} (hno : noOwn vs env = true) {env1 : Env'} (hk : kil vs 0 env = env1) (xs : List α) {p : Pg (List β)} (hl : ∀ n Q X, xs.length ≤ sizeLine → Pg.wp p n (fun l n' => Q (l.map eb) n') X → lcL tg tt te env1 (xs.map ex) [] n Q X) :
    ME (need (noOwn vs env = true) (bnd (noX (lcL tg tt te (killE vs env) (xs.map ex) [])) fun l => ret (.lst l))) (Pg.req (xs.length ≤ sizeLine) (Pg.nox p)) (fun l => D.lst (l.map eb)) := fun n Q X q => by
  obtain ⟨q1, q2⟩ := Pg.wp_req.mp q
  refine ⟨hno, ?_⟩
  rw [kil_eq, hk]
  exact hl n _ _ q1 (Pg.wp_nox.mp q2)
theorem lcT_P {p : Pg (List β)} (hit : MP (it env) (xs.map ex)) (h : ME (need (noOwn vs env = true) (bnd (noX (lcL tg tt te (killE vs env) (xs.map ex) [])) fun l => ret (.lst l))) p (fun l => D.lst (l.map eb))) : ME (lcT tg it tt te vs env) p (fun l => D.lst (l.map eb)) := MP.bndE hit h
theorem lcT_E {p : List α → Pg (List β)} (hit : ME (it env) q (List.map ex)) (h : ∀ xs : List α, ME (need (noOwn vs env = true) (bnd (noX (lcL tg tt te (killE vs env) (xs.map ex) [])) fun l => ret (.lst l))) (p xs) (fun l => D.lst (l.map eb))) : ME (lcT tg it tt te vs env) (q.bind p) (fun l => D.lst (l.map eb)) := ME.bnd hit h
/-- the four forms -/
theorem lc_O {env1 : Env'} {test : α → Pg Bool} {elt : α → Pg β} (hno : noOwn vs env = true) (hk : kil vs 0 env = env1) (h : ∀ x, ∃ e1, stT tg (ex x) env1 = some e1 ∧ ME (tt e1) (test x) D.bl ∧ ME (te e1) (elt x) eb) (xs : List α) :
    ME (need (noOwn vs env = true) (bnd (noX (lcL tg tt te (killE vs env) (xs.map ex) [])) fun l => ret (.lst l))) (Pg.lcO (fun x => (test x).bind fun c => if c = true then (elt x).bind fun y => .ret (some y) else .ret none) xs) (fun l => D.lst (l.map eb)) :=
  lcT_d' hno hk xs fun n Q X hl q => lcL_m h xs [] n Q X (by simpa using hl) (by simpa using q)
theorem lc_M {env1 : Env'} {elt : α → Pg β} (hno : noOwn vs env = true) (hk : kil vs 0 env = env1) (h : ∀ x, ∃ e1, stT tg (ex x) env1 = some e1 ∧ ME (te e1) (elt x) eb) (xs : List α) :
    ME (need (noOwn vs env = true) (bnd (noX (lcL tg yesT te (killE vs env) (xs.map ex) [])) fun l => ret (.lst l))) (Pg.lcM elt xs) (fun l => D.lst (l.map eb)) :=
  lcT_d' hno hk xs fun n Q X hl q => lcL_M h xs [] n Q X (by simpa using hl) (by simpa using q)
theorem mapM_A {g : α → β} {xs : List α} : Pg.mapM (fun x => .ret (g x)) xs = .ret (xs.map g) := Pg.mapM_ret fun _ _ => rfl
theorem mapO_F {p : α → Bool} {g : α → β} {xs : List α} : Pg.mapO (fun x => (Pg.ret (p x)).bind fun c => if c = true then (Pg.ret (g x)).bind fun y => .ret (some y) else .ret none) xs = .ret ((xs.filter p).map g) := by
  rw [Pg.mapO_ret (g := fun x => if p x = true then some (g x) else none) fun x _ => by simp only [Pg.bind]; cases p x <;> rfl]
  congr 1
  induction xs with
  | nil => rfl
  | cons x xs ih =>
    rw [List.filterMap_cons, List.filter_cons]
    cases h : p x with
    | true => simp [ih]
    | false => simp [ih]
theorem lc_A {env1 : Env'} {g : α → β} (hno : noOwn vs env = true) (hk : kil vs 0 env = env1) (h : ∀ x, ∃ e1, stT tg (ex x) env1 = some e1 ∧ MP (te e1) (eb (g x))) (xs : List α) :
    ME (need (noOwn vs env = true) (bnd (noX (lcL tg yesT te (killE vs env) (xs.map ex) [])) fun l => ret (.lst l))) (Pg.lcA g xs) (fun l => D.lst (l.map eb)) :=
  (lc_M (elt := fun x => .ret (g x)) hno hk (fun x => by obtain ⟨e1, h1, h2⟩ := h x; exact ⟨e1, h1, h2.me⟩) xs).rw (by unfold Pg.lcM Pg.lcA; rw [mapM_A]; rfl)
theorem lc_F {env1 : Env'} {p : α → Bool} {g : α → β} (hno : noOwn vs env = true) (hk : kil vs 0 env = env1) (h : ∀ x, ∃ e1, stT tg (ex x) env1 = some e1 ∧ MP (tt e1) (.bl (p x)) ∧ MP (te e1) (eb (g x))) (xs : List α) :
    ME (need (noOwn vs env = true) (bnd (noX (lcL tg tt te (killE vs env) (xs.map ex) [])) fun l => ret (.lst l))) (Pg.lcF p g xs) (fun l => D.lst (l.map eb)) :=
  (lc_O (test := fun x => .ret (p x)) (elt := fun x => .ret (g x)) hno hk (fun x => by obtain ⟨e1, h1, h2, h3⟩ := h x; exact ⟨e1, h1, h2.me, h3.me⟩) xs).rw (by unfold Pg.lcO Pg.lcF; rw [mapO_F]; rfl)
/-! defs -/
theorem t_def {nN : Nat} {t : DS} {ds : List D} {p : Pg ρ} (h0 : envOf nN ds = env) (h : Blk t env p (JF er)) : ME (defM nN t ds) p er := fun n Q X q => by
  show t (envOf nN ds) _ _ n
  rw [h0]
  exact h _ X n q
end
end DL

/-! how typed values stand as data; operations upon them -/
namespace DL
open PySem PySem.Spec L2
section
variable {α β γ δ : Type}
@[reducible] def eL (e : α → D) (l : List α) : D := .lst (l.map e)
@[reducible] def eT (e : α → D) (l : List α) : D := .tup (l.map e)
@[reducible] def eP (e1 : α → D) (e2 : β → D) (p : α × β) : D := .tup [e1 p.1, e2 p.2]
@[reducible] def eP3 (e1 : α → D) (e2 : β → D) (e3 : γ → D) (p : α × β × γ) : D := .tup [e1 p.1, e2 p.2.1, e3 p.2.2]
@[reducible] def eP4 (e1 : α → D) (e2 : β → D) (e3 : γ → D) (e4 : δ → D) (p : α × β × γ × δ) : D := .tup [e1 p.1, e2 p.2.1, e3 p.2.2.1, e4 p.2.2.2]
def eO (e : α → D) : Option α → D
  | none => .non
  | some a => e a
@[reducible] def eD (e : α → D) (l : List (Str × α)) : D := .dct (l.map fun p => .inr p.1) (l.map fun p => e p.2)
@[reducible] def eN : Unit → D := fun _ => .non
@[reducible] def eK : Unit → D := fun _ => .deck
@[reducible] def eV : D → D := id
/-! equality -/
structure EqE (e : α → D) (k : Nat) : Prop where
  ok : ∀ a, okD (e a) = true
  dep : ∀ a, (py (e a)).depth ≤ k
  eq : ∀ a b, eqB (e a) (e b) = true ↔ a = b
theorem EqE.str : EqE D.str 0 := ⟨fun _ => rfl, fun _ => Nat.le_refl _, fun a b => by rw [eqB_str]; exact decide_eq_true_iff⟩
theorem EqE.int : EqE D.int 0 := ⟨fun _ => rfl, fun _ => Nat.le_refl _, fun a b => by rw [eqB_int]; exact decide_eq_true_iff⟩
theorem EqE.bl : EqE D.bl 0 := ⟨fun _ => rfl, fun _ => Nat.le_refl _, fun a b => by cases a <;> cases b <;> simp [eqB, py, PyData.eqv]⟩
theorem eqvAll_map {e : α → D} (h : ∀ a b, eqB (e a) (e b) = true ↔ a = b) : ∀ l m : List α, PyData.eqvAll (pyL (l.map e)) (pyL (m.map e)) = true ↔ l = m
  | [], [] => by simp [pyL, PyData.eqvAll]
  | [], _ :: _ => by simp [pyL, PyData.eqvAll]
  | _ :: _, [] => by simp [pyL, PyData.eqvAll]
  | a :: l, b :: m => by
    simp only [List.map_cons, pyL, PyData.eqvAll, Bool.and_eq_true, eqvAll_map h l m, List.cons.injEq]
    have := h a b
    unfold eqB at this
    rw [this]
theorem EqE.tup {e : α → D} {k : Nat} (h : EqE e k) : EqE (eT e) (k + 1) := ⟨fun l => okL_map e h.ok l, fun l => by
    have := depL_map e h.dep l
    simp only [py, PyData.depth]; omega, fun a b => by
    simp only [eqB, py, PyData.eqv]; exact eqvAll_map h.eq a b⟩
theorem EqE.lst {e : α → D} {k : Nat} (h : EqE e k) : EqE (eL e) (k + 1) := ⟨fun l => okL_map e h.ok l, fun l => by
    have := depL_map e h.dep l
    simp only [py, PyData.depth]; omega, fun a b => by
    simp only [eqB, py, PyData.eqv]; exact eqvAll_map h.eq a b⟩
theorem EqE.pair {e1 : α → D} {e2 : β → D} {j k : Nat} (h1 : EqE e1 j) (h2 : EqE e2 k) : EqE (eP e1 e2) (max j k + 1) := ⟨fun p => by simp [okD, okL, h1.ok, h2.ok], fun p => by
    have a := h1.dep p.1
    have b := h2.dep p.2
    simp only [py, pyL, PyData.depth, PyData.depthAll]; omega, fun a b => by
    have x := h1.eq a.1 b.1
    have y := h2.eq a.2 b.2
    unfold eqB at x y
    simp only [eqB, py, pyL, PyData.eqv, PyData.eqvAll, Bool.and_eq_true, x, y, Bool.true_eq, and_true, Prod.ext_iff]⟩
theorem EqE.pair3 {e1 : α → D} {e2 : β → D} {e3 : γ → D} {i j k : Nat} (h1 : EqE e1 i) (h2 : EqE e2 j) (h3 : EqE e3 k) : EqE (eP3 e1 e2 e3) (max i (max j k) + 1) := ⟨fun p => by simp [okD, okL, h1.ok, h2.ok, h3.ok], fun p => by
    have a := h1.dep p.1
    have b := h2.dep p.2.1
    have c := h3.dep p.2.2
    simp only [py, pyL, PyData.depth, PyData.depthAll]; omega, fun a b => by
    have x := h1.eq a.1 b.1
    have y := h2.eq a.2.1 b.2.1
    have z := h3.eq a.2.2 b.2.2
    unfold eqB at x y z
    simp only [eqB, py, pyL, PyData.eqv, PyData.eqvAll, Bool.and_eq_true, x, y, z, Bool.true_eq, and_true, Prod.ext_iff]⟩
/-- never None, for is -/
def NI (e : α → D) : Prop := ∀ a, isNo (e a) = false
theorem NI.str : NI D.str := fun _ => rfl
theorem NI.int : NI D.int := fun _ => rfl
theorem NI.bl : NI D.bl := fun _ => rfl
theorem NI.tup {e : α → D} : NI (eT e) := fun _ => rfl
theorem NI.lst {e : α → D} : NI (eL e) := fun _ => rfl
theorem NI.pair {e : α → D} {e2 : β → D} : NI (eP e e2) := fun _ => rfl
theorem NI.pair3 {e : α → D} {e2 : β → D} {e3 : γ → D} : NI (eP3 e e2 e3) := fun _ => rfl
theorem NI.pair4 {e : α → D} {e2 : β → D} {e3 : γ → D} {e4 : δ → D} : NI (eP4 e e2 e3 e4) := fun _ => rfl
theorem NI.dct {e : α → D} : NI (eD e) := fun _ => rfl
/-- never None -/
def NN (e : α → D) : Prop := ∀ a, eqB .non (e a) = false ∧ eqB (e a) .non = false ∧ isNo (e a) = false
theorem NN.str : NN D.str := fun _ => ⟨rfl, rfl, rfl⟩
theorem NN.int : NN D.int := fun _ => ⟨rfl, rfl, rfl⟩
theorem NN.bl : NN D.bl := fun _ => ⟨rfl, rfl, rfl⟩
theorem NN.tup {e : α → D} : NN (eT e) := fun _ => ⟨rfl, rfl, rfl⟩
theorem NN.lst {e : α → D} : NN (eL e) := fun _ => ⟨rfl, rfl, rfl⟩
theorem NN.pair {e : α → D} {e2 : β → D} : NN (eP e e2) := fun _ => ⟨rfl, rfl, rfl⟩
theorem NN.pair3 {e : α → D} {e2 : β → D} {e3 : γ → D} : NN (eP3 e e2 e3) := fun _ => ⟨rfl, rfl, rfl⟩
theorem NN.pair4 {e : α → D} {e2 : β → D} {e3 : γ → D} {e4 : δ → D} : NN (eP4 e e2 e3 e4) := fun _ => ⟨rfl, rfl, rfl⟩
theorem EqE.opt {e : α → D} {k : Nat} (h : EqE e k) (hn : NN e) : EqE (eO e) k := ⟨fun o => by
    cases o
    · rfl
    · exact h.ok _, fun o => by
    cases o
    · exact Nat.zero_le _
    · exact h.dep _, fun a b => by
    cases a <;> cases b
    · simp [eO, eqB, py, PyData.eqv]
    · simp [eO, (hn _).1]
    · simp [eO, (hn _).2.1]
    · simp [eO, h.eq]⟩
variable [DecidableEq α] {e : α → D} {k : Nat} {d : D}
theorem eqB_dec (h : EqE e k) (a b : α) : eqB (e a) (e b) = decide (a = b) := by
  by_cases q : a = b
  · rw [(h.eq a b).mpr q, decide_eq_true q]
  · rw [decide_eq_false q]
    cases z : eqB (e a) (e b)
    · rfl
    · exact absurd ((h.eq a b).mp z) q
theorem EqE.cmp {α : Type} {e : α → D} (h : EqE e k) (hk : k ≤ 60) (a : α) : cmpOk (e a) = true := cmpOk_of (h.ok a) (Nat.le_trans (h.dep a) hk)
theorem t_eq (h : EqE e k) (hk : k ≤ 60) (a b : α) : MP (eqD (e a) (e b)) (.bl (decide (a = b))) := by
  rw [← eqB_dec h]; exact MP.need ⟨h.cmp hk a, h.cmp hk b⟩ MP.ret
theorem t_ne (h : EqE e k) (hk : k ≤ 60) (a b : α) : MP (neD (e a) (e b)) (.bl (!decide (a = b))) := by
  rw [← eqB_dec h]; exact MP.need ⟨h.cmp hk a, h.cmp hk b⟩ MP.ret
theorem any_dec (h : EqE e k) (a : α) (l : List α) : ((l.map e).any fun z => eqB z (e a)) = decide (a ∈ l) := by
  induction l with
  | nil => rfl
  | cons c cs ih =>
    rw [List.map_cons, List.any_cons, ih, eqB_dec h]
    by_cases q : c = a
    · subst q; simp
    · have h2 : a ≠ c := fun e => q e.symm
      simp [q, h2]
theorem t_inT (h : EqE e k) (hk : k + 1 ≤ 60) (a : α) (l : List α) : MP (inD (e a) (eT e l)) (.bl (decide (a ∈ l))) := by
  unfold inD
  dsimp only
  rw [any_dec h]
  exact MP.need ⟨h.cmp (by omega) a, h.tup.cmp hk l⟩ MP.ret
theorem t_inL (h : EqE e k) (hk : k + 1 ≤ 60) (a : α) (l : List α) : MP (inD (e a) (eL e l)) (.bl (decide (a ∈ l))) := by
  unfold inD
  dsimp only
  rw [any_dec h]
  exact MP.need ⟨h.cmp (by omega) a, h.lst.cmp hk l⟩ MP.ret
theorem t_notIn {a b : D} {c : Bool} (h : MP (inD a b) (.bl c)) : MP (notInD a b) (.bl (!c)) := MP.bnd h MP.ret
/-- sign of a text -/
theorem t_inS {x z : Str} : ME (inD (.str x) (.str z)) (Pg.req (x.length = 1) (.ret (decide (x.cps.getD 0 0 ∈ z.cps.toList)))) D.bl := ME.need id (MP.me MP.ret)
theorem t_notInE {a b : D} {p : Pg Bool} (h : ME (inD a b) p D.bl) : ME (notInD a b) (p.bind fun c => .ret (!c)) D.bl := ME.bnd h fun _ => MP.me MP.ret
end
section
variable {α β γ : Type} {e : α → D} {e2 : β → D} {d : D}
theorem t_isN {o : Option α} (h : NI e) : MP (isND (eO e o) .non) (.bl o.isNone) := by
  cases o with
  | none => exact MP.ret
  | some a =>
    have : isNo (e a) = false := h a
    unfold isND
    dsimp only [eO]
    rw [this]; exact MP.ret
theorem t_notN {o : Option α} (h : NI e) : MP (notND (eO e o) .non) (.bl o.isSome) := by
  cases o with
  | none => exact MP.ret
  | some a =>
    have : isNo (e a) = false := h a
    unfold notND
    dsimp only [eO]
    rw [this]; exact MP.ret
/-- one value that is known not to be None -/
theorem t_isN_no (h : NI e) (a : α) : MP (isND (e a) .non) (.bl false) := by
  unfold isND
  dsimp only
  rw [h a]; exact MP.ret
theorem t_notN_no (h : NI e) (a : α) : MP (notND (e a) .non) (.bl true) := by
  unfold notND
  dsimp only
  rw [h a]; exact MP.ret
theorem t_isN_v : MP (isND d .non) (.bl (isNo d)) := MP.ret
theorem t_notN_v : MP (notND d .non) (.bl (!isNo d)) := MP.ret
/-! order -/
theorem t_ltI {i j : Int} : MP (ltD (.int i) (.int j)) (.bl (decide (i < j))) := MP.need rfl MP.ret
theorem t_leI {i j : Int} : MP (leD (.int i) (.int j)) (.bl (decide (i ≤ j))) := MP.need rfl MP.ret
theorem t_gtI {i j : Int} : MP (gtD (.int i) (.int j)) (.bl (decide (j < i))) := MP.ret
theorem t_geI {i j : Int} : MP (geD (.int i) (.int j)) (.bl (decide (j ≤ i))) := MP.ret
theorem t_ltV {x y : D} : ME (ltD x y) (Pg.req (ordOk x y = true) (.ret (ltB x y))) D.bl := ME.need id (MP.me MP.ret)
theorem t_leV {x y : D} : ME (leD x y) (Pg.req (ordOk x y = true) (.ret (leB x y))) D.bl := ME.need id (MP.me MP.ret)
theorem t_ltS {x y : Str} : MP (ltD (.str x) (.str y)) (.bl (decide (x.cps.toList < y.cps.toList))) := MP.need rfl MP.ret
theorem t_leS {x y : Str} : MP (leD (.str x) (.str y)) (.bl (!decide (y.cps.toList < x.cps.toList))) := MP.need rfl MP.ret
/-! sums -/
theorem t_addI {i j : Int} : MP (addD (.int i) (.int j)) (.int (i + j)) := MP.ret
theorem t_addIB {i : Int} {b : Bool} : MP (addD (.int i) (.bl b)) (.int (i + if b = true then 1 else 0)) := MP.ret
theorem t_subI {i j : Int} : MP (subD (.int i) (.int j)) (.int (i - j)) := MP.ret
theorem t_negI {i : Int} : MP (negD (.int i)) (.int (-i)) := MP.ret
theorem t_addS {x y : Str} : ME (addD (.str x) (.str y)) (Pg.req (x.length + y.length ≤ sizeLine) (.ret (x ++ y))) D.str := ME.need id (MP.me MP.ret)
theorem t_addL {l m : List α} : ME (addD (eL e l) (eL e m)) (Pg.req (l.length + m.length ≤ sizeLine) (.ret (l ++ m))) (eL e) := ME.need (c := (l.map e).length + (m.map e).length ≤ sizeLine) (fun h => by simpa using h) (MP.me (by rw [show eL e (l ++ m) = .lst (l.map e ++ m.map e) from by simp [eL]]; exact MP.ret))
theorem t_addT {l m : List α} : ME (addD (eT e l) (eT e m)) (Pg.req (l.length + m.length ≤ sizeLine) (.ret (l ++ m))) (eT e) := ME.need (c := (l.map e).length + (m.map e).length ≤ sizeLine) (fun h => by simpa using h) (MP.me (by rw [show eT e (l ++ m) = .tup (l.map e ++ m.map e) from by simp [eT]]; exact MP.ret))
theorem t_catL {l m : List α} : ME (catD (eL e l) (eL e m)) (Pg.req (l.length + m.length ≤ sizeLine) (.ret (l ++ m))) (eL e) := ME.need (c := (l.map e).length + (m.map e).length ≤ sizeLine) (fun h => by simpa using h) (MP.me (by rw [show eL e (l ++ m) = .lst (l.map e ++ m.map e) from by simp [eL]]; exact MP.ret))
theorem t_modI {i j : Int} : ME (modD (.int i) (.int j)) (Pg.req (0 < j) (.ret (i % j))) D.int := ME.need id (MP.me MP.ret)
theorem t_mulL {l : List α} {k : Int} : ME (timesD (eL e l) (.int k)) (Pg.req (0 ≤ k ∧ k < 2 ^ 63 ∧ l.length * k.toNat ≤ sizeLine) (.ret (List.replicate k.toNat l).flatten)) (eL e) :=
  ME.need (c := 0 ≤ k ∧ k < 2 ^ 63 ∧ (l.map e).length * k.toNat ≤ sizeLine) (fun h => by simpa using h) (MP.me (by
    rw [show eL e (List.replicate k.toNat l).flatten = .lst (List.replicate k.toNat (l.map e)).flatten from by simp [eL, List.map_flatten]]
    exact MP.ret))
/-! items -/
theorem atI_map {f : α → β} {l : List α} {i : Int} : atI (l.map f) i = (atI l i).map f := by
  unfold atI
  simp only [List.length_map]
  cases ixN l.length i with
  | none => rfl
  | some j => simp only [Option.bind_some, List.getElem?_map]
def Pg.at_ (l : List α) (i : Int) : Pg α := match atI l i with
  | some a => .ret a
  | none => .stop
theorem t_ixL {l : List α} {i : Int} : ME (ixD (eL e l) (.int i)) (Pg.at_ l i) e := fun n Q X q => by
  unfold ixD; dsimp only
  rw [atI_map]
  unfold Pg.at_ at q
  cases h : atI l i with
  | none => rw [h] at q; exact q
  | some a => rw [h] at q; exact q
theorem t_ixT {l : List α} {i : Int} : ME (ixD (eT e l) (.int i)) (Pg.at_ l i) e := fun n Q X q => by
  unfold ixD; dsimp only
  rw [atI_map]
  unfold Pg.at_ at q
  cases h : atI l i with
  | none => rw [h] at q; exact q
  | some a => rw [h] at q; exact q
def Pg.atS (z : Str) (i : Int) : Pg Str := Pg.req (z.length ≤ sizeLine) ((Pg.at_ z.cps.toList i).bind fun c => .ret ⟨#[c]⟩)
theorem t_ixS {z : Str} {i : Int} : ME (ixD (.str z) (.int i)) (Pg.atS z i) D.str := fun n Q X q => by
  obtain ⟨q1, q2⟩ := Pg.wp_req.mp q
  unfold ixD; dsimp only
  unfold Pg.at_ at q2
  cases h : atI z.cps.toList i with
  | none => rw [h] at q2; exact q2
  | some a => rw [h] at q2; exact ⟨q1, q2⟩
theorem t_ixP (l : List D) (i : Int) {d : D} (h : atI l i = some d) : MP (ixD (.tup l) (.int i)) d := fun n Q X q => by
  unfold ixD; dsimp only
  rw [h]; exact q
/-! slices -/
theorem cutL_map {f : α → β} {l : List α} {a b : Option Int} : cutL (l.map f) a b = (cutL l a b).map f := by
  unfold cutL
  simp [List.map_take, List.map_drop]
theorem t_slL {l : List α} {a b : Option Int} : MP (slD (eL e l) a b) (eL e (cutL l a b)) := by
  rw [show eL e (cutL l a b) = .lst (cutL (l.map e) a b) from by rw [cutL_map]]; exact MP.ret
theorem t_slT {l : List α} {a b : Option Int} : MP (slD (eT e l) a b) (eT e (cutL l a b)) := by
  rw [show eT e (cutL l a b) = .tup (cutL (l.map e) a b) from by rw [cutL_map]]; exact MP.ret
theorem t_slLL {l : List α} {a b : Option Int} : MP (slLD (eL e l) a b) (eL e (cutL l a b)) := by
  rw [show eL e (cutL l a b) = .lst (cutL (l.map e) a b) from by rw [cutL_map]]; exact MP.ret
theorem t_slS {z : Str} {a b : Option Int} : ME (slD (.str z) a b) (Pg.req (z.length ≤ sizeLine) (.ret (cutS z a b))) D.str := ME.need id (MP.me MP.ret)
/-! calls of what is built in -/
theorem t_lenL {l : List α} : MP (lenD (eL e l)) (.int l.length) := by
  rw [← List.length_map (f := e)]; exact MP.ret
theorem t_lenT {l : List α} : MP (lenD (eT e l)) (.int l.length) := by
  rw [← List.length_map (f := e)]; exact MP.ret
theorem t_lenD {l : List (Str × α)} : MP (lenD (eD e l)) (.int l.length) := by
  rw [← List.length_map (f := fun p : Str × α => (.inr p.1 : Key))]; exact MP.ret
theorem t_lenS {z : Str} : ME (lenD (.str z)) (Pg.req (z.length ≤ sizeLine) (.ret (z.length : Int))) D.int := ME.need id (MP.me MP.ret)
theorem t_listL {l : List α} : MP (listD (eL e l)) (eL e l) := MP.ret
theorem t_listT {l : List α} : MP (listD (eT e l)) (eL e l) := MP.ret
theorem t_tupleL {l : List α} : MP (tupleD (eL e l)) (eT e l) := MP.ret
theorem t_tupleT {l : List α} : MP (tupleD (eT e l)) (eT e l) := MP.ret
theorem t_intI {i : Int} : MP (intD (.int i)) (.int i) := MP.ret
theorem t_intB {b : Bool} : MP (intD (.bl b)) (.int (if b = true then 1 else 0)) := MP.ret
theorem t_strI {i : Int} : ME (strD (.int i)) (Pg.req (0 ≤ i ∧ i < 10000000000) (.ret (Str.ofString (toString i)))) D.str := ME.need id (MP.me MP.ret)
theorem t_allL {l : List Bool} : MP (allD (eL D.bl l)) (.bl (l.all id)) := by
  unfold allD eL; dsimp only; rw [bools_map]; exact MP.ret
theorem t_anyL {l : List Bool} : MP (anyD (eL D.bl l)) (.bl (l.any id)) := by
  unfold anyD eL; dsimp only; rw [bools_map]; exact MP.ret
theorem t_joinL {s : Str} {l : List Str} : ME (joinD s (eL D.str l)) (Pg.req ((l.map (·.length)).sum + l.length * s.length ≤ 16777216 ∧ PyData.strOk (Txt.join s l) = true) (.ret (Txt.join s l))) D.str := by
  unfold joinD eL rowD; dsimp only; rw [strL_map]; exact ME.need id (MP.me MP.ret)
theorem t_joinT {s : Str} {l : List Str} : ME (joinD s (eT D.str l)) (Pg.req ((l.map (·.length)).sum + l.length * s.length ≤ 16777216 ∧ PyData.strOk (Txt.join s l) = true) (.ret (Txt.join s l))) D.str := by
  unfold joinD eT rowD; dsimp only; rw [strL_map]; exact ME.need id (MP.me MP.ret)
theorem intL_map' (l : List Int) : intL (l.map D.int) = some l := by
  induction l with
  | nil => rfl
  | cons a l ih => simp [intL, ih]
theorem t_repr {d : D} : ME (reprD d) (Pg.req (shOk d = true) (.ret (shw d))) D.str := ME.need id (MP.me MP.ret)
theorem t_sset {l : List Str} : ME (ssetD (eL D.str l)) (Pg.req (l.length + 1 < 4096) (.ret (St.srtS l))) (eL D.str) := by
  unfold ssetD eL; dsimp only; rw [strL_map]; exact ME.need id (MP.me MP.ret)
/-! what is walked -/
theorem i_L {l : List α} : MP (itemsD (eL e l)) (l.map e) := MP.ret
theorem i_T {l : List α} : MP (itemsD (eT e l)) (l.map e) := MP.ret
def signs (z : Str) : List Str := z.cps.toList.map fun c => ⟨#[c]⟩
theorem i_S {z : Str} : MP (itemsD (.str z)) ((signs z).map D.str) := by
  unfold signs
  rw [List.map_map]; exact MP.ret
variable {t u : DE} {env : Env'} {x y : D} {l : List D}
theorem rowI_P (h : MP (t env) x) (hi : MP (itemsD x) l) : MP (rowI t env) l := MP.bnd h hi
theorem rowI_E {ea : β → D} {p : Pg β} {f : β → List α} (h : ME (t env) p ea) (hi : ∀ b, MP (itemsD (ea b)) ((f b).map e)) : ME (rowI t env) (p.bind fun b => .ret (f b)) (List.map e) := ME.bnd h fun b => (hi b).me
def rng (i j : Int) : List Int := (List.range (j - i).toNat).map fun n : Nat => i + (n : Int)
def Pg.rng1 (j : Int) : Pg (List Int) := Pg.req (j < 4611686018427387904 ∧ -4611686018427387904 ≤ j) (.ret (rng 0 j))
def Pg.rng2 (i j : Int) : Pg (List Int) := Pg.req ((j < 4611686018427387904 ∧ -4611686018427387904 ≤ j) ∧ (i < 4611686018427387904 ∧ -4611686018427387904 ≤ i)) (.ret (rng i j))
theorem rng_map (i : Int) (j : Int) : (rng i j).map D.int = rangeD i (j - i).toNat := by
  unfold rng rangeD
  rw [List.map_map]; rfl
theorem r1_e {j : Int} : ME (r1D (.int j)) (Pg.rng1 j) (List.map D.int) := ME.need id (MP.me (by
  rw [rng_map, show j - 0 = j from by omega]; exact MP.ret))
theorem r2_e {i j : Int} : ME (r2D (.int i) (.int j)) (Pg.rng2 i j) (List.map D.int) := ME.need id (MP.me (by
  rw [rng_map]; exact MP.ret))
theorem rng1_P {j : Int} (h : MP (t env) (.int j)) : ME (DL.rng1 t env) (Pg.rng1 j) (List.map D.int) := MP.bndE h r1_e
theorem rng1_E {p : Pg Int} (h : ME (t env) p D.int) : ME (DL.rng1 t env) (p.bind fun j => Pg.rng1 j) (List.map D.int) := ME.bnd h fun _ => r1_e
theorem rng2_P {i j : Int} (h : MP (t env) (.int i)) (h2 : MP (u env) (.int j)) : ME (DL.rng2 t u env) (Pg.rng2 i j) (List.map D.int) := MP.bndE h (MP.bndE h2 r2_e)
theorem zip_map {l : List α} {m : List β} : List.zipWith (fun x y => D.tup [x, y]) (l.map e) (m.map e2) = (l.zip m).map (eP e e2) := by
  induction l generalizing m with
  | nil => rfl
  | cons a l ih => cases m with
    | nil => rfl
    | cons b m => simp [ih, eP]
theorem zipOk_e (hn : (∀ a, isTupD (e a) = false) ∨ ∀ b, isTupD (e2 b) = false) (l : List α) (m : List β) : zipOk (l.map e) (m.map e2) = true := by
  unfold zipOk
  rw [Bool.or_eq_true]
  rcases hn with h | h
  · exact .inl (List.all_eq_true.mpr fun d hd => by obtain ⟨a, _, rfl⟩ := List.mem_map.mp hd; rw [h]; rfl)
  · exact .inr (List.all_eq_true.mpr fun d hd => by obtain ⟨a, _, rfl⟩ := List.mem_map.mp hd; rw [h]; rfl)
theorem zipT_P {l : List α} {m : List β} (hn : (∀ a, isTupD (e a) = false) ∨ ∀ b, isTupD (e2 b) = false) (h : MP (t env) (eT e l)) (h2 : MP (u env) (eT e2 m)) : MP (zipI t u env) ((l.zip m).map (eP e e2)) := MP.bnd h (MP.bnd h2 (MP.need (zipOk_e hn l m) (by rw [← zip_map]; exact MP.ret)))
theorem zipL_P {l : List α} {m : List β} (hn : (∀ a, isTupD (e a) = false) ∨ ∀ b, isTupD (e2 b) = false) (h : MP (t env) (eL e l)) (h2 : MP (u env) (eL e2 m)) : MP (zipI t u env) ((l.zip m).map (eP e e2)) := MP.bnd h (MP.bnd h2 (MP.need (zipOk_e hn l m) (by rw [← zip_map]; exact MP.ret)))
end
/-! the draw -/
def Pg.draws (m : Int) : Pg Int := .draw m .ret
theorem t_draw {m : Int} : ME (drawM [.deck, .int m]) (Pg.draws m) D.int := fun n Q X q => q
end DL

/-! more operations upon typed values -/
namespace DL
open PySem PySem.Spec L2
section
variable {α β γ : Type} {e : α → D} {e2 : β → D} {d : D} {t u : DE} {env : Env'} {x y : D} {l : List D}
theorem me_some {m : Mo D} {p : Pg α} (h : ME m p e) : ME m (p.bind fun z => .ret (some z)) (eO e) := fun n Q X q => h n Q X (Pg.wp_mono (fun _ _ q => q) (fun _ _ q => q) (Pg.wp_bind.mp q))
theorem me_val {m : Mo D} {p : Pg α} (h : ME m p e) : ME m (p.bind fun z => .ret (e z)) eV := fun n Q X q => h n Q X (Pg.wp_mono (fun _ _ q => q) (fun _ _ q => q) (Pg.wp_bind.mp q))
theorem me_someI {m : Mo (Option Int)} {p : Pg Int} (h : ME m p some) : ME m (p.bind fun z => .ret (some z)) id := fun n Q X q => h n Q X (Pg.wp_mono (fun _ _ q => q) (fun _ _ q => q) (Pg.wp_bind.mp q))
def maxd (l : List Int) (i : Int) : Int := match l with
  | [] => i
  | y :: ys => ys.foldl max y
theorem t_maxd {l : List Int} {i : Int} : MP (maxDD (eL D.int l) i) (.int (maxd l i)) := by
  unfold maxDD eL; dsimp only; rw [intL_map']
  cases l <;> exact MP.ret
def Pg.sset (l : List Str) : Pg (List Str) := Pg.req (l.length + 1 < 4096) (.ret (St.srtS l))
def Pg.join (s : Str) (l : List Str) : Pg Str := Pg.req ((l.map (·.length)).sum + l.length * s.length ≤ 16777216 ∧ PyData.strOk (Txt.join s l) = true) (.ret (Txt.join s l))
def Pg.times (l : List α) (k : Int) : Pg (List α) := Pg.req (0 ≤ k ∧ k < 2 ^ 63 ∧ l.length * k.toNat ≤ sizeLine) (.ret (List.replicate k.toNat l).flatten)
def Pg.atP2 (p : α × α) (i : Int) : Pg α := match atI [p.1, p.2] i with
  | some a => .ret a
  | none => .stop
theorem t_ixP2 {p : α × α} {i : Int} : ME (ixD (eP e e p) (.int i)) (Pg.atP2 p i) e := t_ixT (l := [p.1, p.2])
theorem rowI_I {ea : List α → D} {p : Pg (List α)} (h : ME (t env) p ea) (hi : ∀ b, MP (itemsD (ea b)) (b.map e)) : ME (rowI t env) p (List.map e) := fun n Q X q => h n _ X (Pg.wp_mono (fun b n' q => hi b n' Q X q) (fun _ _ q => q) q)
theorem rng2_E {p q : Pg Int} (h : ME (t env) p D.int) (h2 : ME (u env) q D.int) : ME (DL.rng2 t u env) (p.bind fun i => q.bind fun j => Pg.rng2 i j) (List.map D.int) := ME.bnd h fun _ => ME.bnd h2 fun _ => r2_e
def Pg.lcB (test : α → Pg Bool) (elt : α → Pg β) (xs : List α) : Pg (List β) := Pg.lcO (fun x => (test x).bind fun c => if c = true then (elt x).bind fun y => .ret (some y) else .ret none) xs
theorem lc_B {tg : Tg} {tt te : DE} {vs : List Nat} {ex : α → D} {eb : β → D} {env1 : Env'} {test : α → Pg Bool} {elt : α → Pg β} (hno : noOwn vs env = true) (hk : kil vs 0 env = env1) (h : ∀ x, ∃ e1, stT tg (ex x) env1 = some e1 ∧ ME (tt e1) (test x) D.bl ∧ ME (te e1) (elt x) eb) (xs : List α) :
    ME (need (noOwn vs env = true) (bnd (noX (lcL tg tt te (killE vs env) (xs.map ex) [])) fun l => ret (.lst l))) (Pg.lcB test elt xs) (fun l => D.lst (l.map eb)) := lc_O hno hk h xs
theorem disp_e {ds : List D} {f : List D → D} {v : D} (h : ds.length ≤ 1000) (hv : f ds = v) : MP (need (ds.length ≤ sizeLine) (ret (f ds))) v := hv ▸ MP.need (le_sz h) MP.ret
def Pg.ssetR (rs : List (List Str)) : Pg (List (List Str)) := Pg.req ((Rs.dedupR rs).length ≤ 76 ∧ (rs.all (fun r => !r.isEmpty) || decide ((Rs.dedupR rs).length ≤ 1)) = true) (.ret (Rs.srtR rs))
theorem t_srows {rs : List (List Str)} : ME (srowsD (rs.map encRow)) (Pg.ssetR rs) (eL (eT D.str)) := by
  unfold srowsD; rw [rowsL_map]; exact ME.need id (MP.me MP.ret)
theorem t_ssetRT {rs : List (List Str)} : ME (ssetD (eT (eT D.str) rs)) (Pg.ssetR rs) (eL (eT D.str)) := t_srows
theorem t_ssetRL {rs : List (List Str)} : ME (ssetD (eL (eT D.str) rs)) (Pg.ssetR rs) (eL (eT D.str)) := by
  cases rs with
  | nil =>
    intro n Q X q
    have q := (Pg.wp_req.mp q).2
    have e1 : St.srtS [] = [] := by simp [St.srtS, St.dedupS]
    have e2 : Rs.srtR [] = [] := by simp [Rs.srtR, Rs.dedupR]
    rw [e2] at q
    refine ⟨by decide, ?_⟩
    rw [e1]
    exact q
  | cons r rs => exact t_srows
/-! one of some -/
def t_one (l : List α) : Pg α := (Pg.draws (l.length : Int)).bind fun i => Pg.at_ l i
def t_oneS (z : Str) : Pg Str := Pg.req (z.length ≤ sizeLine) ((Pg.draws (z.length : Int)).bind fun i => Pg.atS z i)
end
end DL

/-! more operations upon typed values: dicts, isinstance, several targets -/
namespace DL
open PySem PySem.Spec L2
/-! dicts keyed by texts -/
section
variable {α β γ : Type}
def dlook (l : List (Str × α)) (k : Str) : Option α := match l with
  | [] => none
  | p :: l => if p.1 = k then some p.2 else dlook l k
def dget (l : List (Str × α)) (k : Str) (z : α) : α := (dlook l k).getD z
def dhas (l : List (Str × α)) (k : Str) : Bool := l.any fun p => decide (p.1 = k)
def dput (l : List (Str × α)) (k : Str) (v : α) : List (Str × α) := if dhas l k = true then l.map (fun p => if p.1 = k then (p.1, v) else p) else l ++ [(k, v)]
def dmerge (l : List (Str × α)) : List (Str × α) := l.foldl (fun acc p => dput acc p.1 p.2) []
variable {e : α → D}
theorem look_eq (l : List (Str × α)) (k : Str) : atK (l.map fun p => .inr p.1) (l.map fun p => e p.2) (.inr k) = (dlook l k).map e := by
  induction l with
  | nil => rfl
  | cons p l ih =>
    simp only [List.map_cons, atK, dlook, Sum.inr.injEq]
    by_cases h : p.1 = k
    · rw [if_pos h, if_pos h]; rfl
    · rw [if_neg h, if_neg h, ih]
theorem has_eq (l : List (Str × α)) (k : Str) : hasK (l.map fun p => (.inr p.1 : Key)) (.inr k) = dhas l k := by
  unfold hasK dhas
  rw [List.any_map]
  congr 1
  funext p
  simp
theorem put_eq (l : List (Str × α)) (k : Str) (v : α) : putL (l.map fun p => (.inr p.1 : Key)) (l.map fun p => e p.2) (.inr k) (e v) = ((dput l k v).map (fun p : Str × α => (.inr p.1 : Key)), (dput l k v).map fun p : Str × α => e p.2) := by
  unfold putL dput
  rw [has_eq]
  by_cases h : dhas l k = true
  · rw [if_pos h, if_pos h]
    clear h
    congr 1
    · rw [List.map_map]
      apply List.map_congr_left
      intro p _
      dsimp only [Function.comp]
      split <;> rfl
    · induction l with
      | nil => rfl
      | cons p l ih =>
        simp only [List.map_cons, List.zipWith_cons_cons, Sum.inr.injEq, ih]
        congr 1
        split <;> rfl
  · rw [if_neg h, if_neg h]
    simp
theorem getT_P {ta tb tc : DE} {env : Env'} {l : List (Str × α)} {k : Str} {z : α} (ha : MP (ta env) (eD e l)) (hb : MP (tb env) (.str k)) (hc : MP (tc env) (e z)) : MP (getT ta tb tc env) (e (dget l k z)) := fun n Q X q => ha n _ X (hb n _ X (hc n _ X (by
  show (match keyD (.str k) with | some x => ret ((atK (l.map fun p : Str × α => (.inr p.1 : Key)) (l.map fun p : Str × α => e p.2) x).getD (e z)) | none => stop) n Q X
  dsimp only [keyD]
  rw [look_eq]
  unfold dget at q
  cases h : dlook l k with
  | none => rw [h] at q; exact q
  | some a => rw [h] at q; exact q)))
def Pg.atD (l : List (Str × α)) (k : Str) : Pg α := match dlook l k with
  | some a => .ret a
  | none => .stop
theorem t_ixK {l : List (Str × α)} {k : Str} : ME (ixD (eD e l) (.str k)) (Pg.atD l k) e := fun n Q X q => by
  unfold ixD eD
  dsimp only [keyD]
  rw [look_eq]
  unfold Pg.atD at q
  cases h : dlook l k with
  | none => rw [h] at q; exact q
  | some a => rw [h] at q; exact q
theorem t_inK {l : List (Str × α)} {k : Str} : MP (inD (.str k) (eD e l)) (.bl (dhas l k)) := by
  unfold inD eD
  dsimp only [keyD]
  rw [has_eq]; exact MP.ret
theorem t_dictD {l : List (Str × α)} : MP (dictD (eD e l)) (eD e l) := MP.ret
theorem pairs_eq (l : List (Str × α)) : pairsD (l.map (eP D.str e)) = some (l.map fun p : Str × α => ((.inr p.1 : Key), e p.2)) := by
  induction l with
  | nil => rfl
  | cons p l ih =>
    simp only [List.map_cons, pairsD, ih]
    rfl
theorem merge_eq (l : List (Str × α)) : mergeD (l.map fun p => ((.inr p.1 : Key), e p.2)) = ((dmerge l).map (fun p => .inr p.1), (dmerge l).map fun p => e p.2) := by
  have gen : ∀ (l acc : List (Str × α)), (l.map fun p => ((.inr p.1 : Key), e p.2)).foldl (fun acc p => putL acc.1 acc.2 p.1 p.2) (acc.map (fun p => .inr p.1), acc.map fun p => e p.2) = ((l.foldl (fun acc p => dput acc p.1 p.2) acc).map (fun p => .inr p.1), (l.foldl (fun acc p => dput acc p.1 p.2) acc).map fun p => e p.2) := by
    intro l
    induction l with
    | nil => exact fun _ => rfl
    | cons p l ih =>
      intro acc
      rw [List.map_cons, List.foldl_cons, List.foldl_cons]
      dsimp only
      rw [put_eq]
      exact ih _
  exact gen l []
theorem t_dictL {l : List (Str × α)} : MP (dictD (eL (eP D.str e) l)) (eD e (dmerge l)) := by
  unfold dictD eL
  dsimp only
  rw [pairs_eq]
  dsimp only
  rw [merge_eq]
  exact MP.ret
theorem t_dictT {l : List (Str × α)} : MP (dictD (eT (eP D.str e) l)) (eD e (dmerge l)) := by
  unfold dictD eT
  dsimp only
  rw [pairs_eq]
  dsimp only
  rw [merge_eq]
  exact MP.ret
def Pg.put (l : List (Str × α)) (k : Str) (v : α) (m : List (Str × α) → Pg γ) : Pg γ := Pg.req (l.length < sizeLine) (m (dput l k v))
variable {u : DS} {env : Env'} {J : DK → γ → Nat → Prop} {i : Nat} {tk tv tg : DE} {ea : α → D}
theorem b_put {l : List (Str × α)} {x : Str} {v : α} {env' : List (Str × α) → Env'} {m : List (Str × α) → Pg γ} (h0 : ownK env i = some (l.map (fun p => .inr p.1), l.map fun p => ea p.2)) (hk : MP (tk env) (.str x)) (hv : MP (tv env) (ea v)) (he : ∀ l, env.set i (.own (eD ea l)) = env' l) (hu : ∀ l, Blk u (env' l) (m l) J) :
    Blk (seqS (putS i tk tv) u) env (Pg.put l x v m) J := fun k Xd n q => by
  obtain ⟨q1, q2⟩ := Pg.wp_req.mp q
  dsimp only [seqS, putS]
  rw [h0]
  refine hv n _ _ (hk n _ _ ?_)
  dsimp only [keyD]
  refine ⟨by simpa using q1, ?_⟩
  rw [put_eq]
  have := hu _ k Xd n q2
  rw [← he] at this
  exact this
theorem b_putE {l : List (Str × α)} {x : Str} {p : Pg α} {env' : List (Str × α) → Env'} {m : List (Str × α) → Pg γ} (h0 : ownK env i = some (l.map (fun p => .inr p.1), l.map fun p => ea p.2)) (hk : MP (tk env) (.str x)) (hv : ME (tv env) p ea) (he : ∀ l, env.set i (.own (eD ea l)) = env' l) (hu : ∀ l, Blk u (env' l) (m l) J) :
    Blk (seqS (putS i tk tv) u) env (p.bind fun v => Pg.put l x v m) J := fun k Xd n q => by
  dsimp only [seqS, putS]
  rw [h0]
  refine hv n _ _ (Pg.wp_mono (fun v n' q => hk n' _ _ ?_) (fun _ _ q => q) (Pg.wp_bind.mp q))
  obtain ⟨q1, q2⟩ := Pg.wp_req.mp q
  dsimp only [keyD]
  refine ⟨by simpa using q1, ?_⟩
  rw [put_eq]
  have := hu _ k Xd n' q2
  rw [← he] at this
  exact this
/-- d.setdefault(k, v) -/
def dset (l : List (Str × α)) (k : Str) (v : α) : List (Str × α) := if dhas l k = true then l else dput l k v
theorem sdN_eq (l : List (Str × α)) (k : Str) (v : α) : sdN (l.map (fun p => .inr p.1), l.map fun p => e p.2) (.inr k) (e v) = eD e (dset l k v) := by
  unfold sdN dset
  dsimp only
  rw [has_eq, put_eq]
  by_cases h : dhas l k = true
  · rw [if_pos h, if_pos h]
  · rw [if_neg h, if_neg h]
/-- the test of what stands there then -/
def Pg.sdf [DecidableEq α] (l : List (Str × α)) (x : Str) (v g : α) (mA mB : List (Str × α) → Pg γ) : Pg γ := Pg.req (l.length < sizeLine) (if (!decide (dget l x v = g)) = true then mA (dset l x v) else mB (dset l x v))
theorem b_sdf [DecidableEq α] {κ : Nat} {l : List (Str × α)} {x : Str} {v g : α} {A B : DS} {env' : List (Str × α) → Env'} {mA mB : List (Str × α) → Pg γ} (hE : EqE ea κ) (h60 : κ ≤ 60) (h0 : ownK env i = some (l.map (fun p => .inr p.1), l.map fun p => ea p.2)) (hk : MP (tk env) (.str x)) (hv : MP (tv env) (ea v)) (he : ∀ l, env.set i (.own (eD ea l)) = env' l)
    (hg : ∀ l, MP (tg (env' l)) (ea g)) (hA : ∀ l, Blk (seqS A u) (env' l) (mA l) J) (hB : ∀ l, Blk (seqS B u) (env' l) (mB l) J) :
    Blk (seqS (sdfS i tk tv tg A B) u) env (Pg.sdf l x v g mA mB) J := fun k Xd n q => by
  obtain ⟨q1, q2⟩ := Pg.wp_req.mp q
  dsimp only [seqS, sdfS]
  rw [h0]
  refine hk n _ _ (hv n _ _ ?_)
  dsimp only [keyD]
  refine ⟨by simpa using q1, ?_⟩
  rw [sdN_eq, he]
  refine hg _ n _ _ ?_
  rw [look_eq]
  have e2 : ((dlook l x).map ea).getD (ea v) = ea (dget l x v) := by unfold dget; cases dlook l x <;> rfl
  rw [e2]
  refine t_ne hE h60 _ _ n _ _ ?_
  cases h : decide (dget l x v = g) with
  | true =>
    rw [h] at q2
    exact ⟨fun z => (by cases z), fun _ => hB _ k Xd n q2, .inr rfl⟩
  | false =>
    rw [h] at q2
    exact ⟨fun _ => hA _ k Xd n q2, fun z => (by cases z), .inl rfl⟩
/-! a.append(b.pop(i)) -/
def Pg.popAt (lb : List α) (z : Int) : Pg (α × List α) := match seqIndex? z lb.length with
  | some m => match lb[m]? with
    | some y => Pg.req (-(2 ^ 63) ≤ z ∧ z < 2 ^ 63) (.ret (y, lb.eraseIdx m))
    | none => .stop
  | none => .stop
theorem eraseIdx_map' {β : Type} (f : α → β) : ∀ (l : List α) (n : Nat), (l.map f).eraseIdx n = (l.eraseIdx n).map f
  | [], n => rfl
  | a :: l, 0 => rfl
  | a :: l, n + 1 => by show f a :: (l.map f).eraseIdx n = _; rw [eraseIdx_map' f l n]; rfl
def Pg.apop (la lb : List α) (z : Int) (m : List α → List α → Pg γ) : Pg γ := (Pg.popAt lb z).bind fun yb => Pg.app la yb.1 fun a => m a yb.2
theorem b_apop {j : Nat} {te : DE} {p : Pg Int} {la lb : List α} {env' : List α → List α → Env'} {m : List α → List α → Pg γ} (h0 : ownL env i = some (la.map ea)) (h1 : ownL env j = some (lb.map ea)) (h : ME (te env) p D.int) (he : ∀ a b, (env.set j (.own (.lst (b.map ea)))).set i (.own (.lst (a.map ea))) = env' a b) (hu : ∀ a b, Blk u (env' a b) (m a b) J) :
    Blk (seqS (apopS i j te) u) env (p.bind fun z => Pg.apop la lb z m) J := fun k Xd n q => by
  dsimp only [seqS, apopS]
  rw [h0, h1]
  refine h n _ _ (Pg.wp_mono (fun z n' q => ?_) (fun _ _ q => q) (Pg.wp_bind.mp q))
  have q := Pg.wp_bind.mp q
  unfold Pg.popAt at q
  dsimp only
  rw [List.length_map]
  cases hs : seqIndex? z lb.length with
  | none => rw [hs] at q; exact q.elim
  | some w =>
    rw [hs] at q
    dsimp only at q ⊢
    rw [List.getElem?_map]
    cases hb : lb[w]? with
    | none => rw [hb] at q; exact q.elim
    | some y =>
      rw [hb] at q
      dsimp only at q ⊢
      obtain ⟨q1, q2⟩ := Pg.wp_req.mp q
      have q2 : Pg.wp (Pg.app la y fun a => m a (lb.eraseIdx w)) n' (J k) Xd := q2
      obtain ⟨q3, q4⟩ := Pg.wp_req.mp q2
      refine ⟨⟨by simpa using q3, q1.1, q1.2⟩, ?_⟩
      have := hu _ _ k Xd n' q4
      rw [← he] at this
      rw [List.map_append] at this
      show u ((env.set j (.own (.lst ((lb.map ea).eraseIdx w)))).set i (.own (.lst (la.map ea ++ [ea y])))) k _ n'
      rw [eraseIdx_map']
      exact this
/-! several targets -/
theorem b_par2 {j : Nat} {oi oj : Bool} {a b : DE} {pa : Pg α} {pb : Pg β} {eb : β → D} {env' : α → β → Env'} {m : α → β → Pg γ} (ha : ME (a env) pa ea) (hb : ME (b env) pb eb) (hl : decide (i < env.length ∧ j < env.length) = true) (he : ∀ x y, (env.set i (evO oi (ea x))).set j (evO oj (eb y)) = env' x y) (hu : ∀ x y, Blk u (env' x y) (m x y) J) :
    Blk (seqS (par2S i oi a j oj b) u) env (pa.bind fun x => pb.bind fun y => m x y) J := fun k Xd n q =>
  ha n _ _ (Pg.wp_mono (fun x n' q => hb n' _ _ (Pg.wp_mono (fun y n'' q => ⟨of_decide_eq_true hl, by
    show u ((env.set i (evO oi (ea x))).set j (evO oj (eb y))) k _ n''
    rw [he]; exact hu x y k Xd n'' q⟩) (fun _ _ q => q) (Pg.wp_bind.mp q))) (fun _ _ q => q) (Pg.wp_bind.mp q))
theorem b_par3 {δ : Type} {j l : Nat} {oi oj ol : Bool} {a b g : DE} {pa : Pg α} {pb : Pg β} {pg : Pg δ} {eb : β → D} {eg : δ → D} {env' : α → β → δ → Env'} {m : α → β → δ → Pg γ} (ha : ME (a env) pa ea) (hb : ME (b env) pb eb) (hg : ME (g env) pg eg) (hl : decide (i < env.length ∧ j < env.length ∧ l < env.length) = true)
    (he : ∀ x y z, ((env.set i (evO oi (ea x))).set j (evO oj (eb y))).set l (evO ol (eg z)) = env' x y z) (hu : ∀ x y z, Blk u (env' x y z) (m x y z) J) : Blk (seqS (par3S i oi a j oj b l ol g) u) env (pa.bind fun x => pb.bind fun y => pg.bind fun z => m x y z) J := by
  intro k Xd n q
  refine ha n _ _ (Pg.wp_mono (fun x n1 q => ?_) (fun _ _ q => q) (Pg.wp_bind.mp q))
  refine hb n1 _ _ (Pg.wp_mono (fun y n2 q => ?_) (fun _ _ q => q) (Pg.wp_bind.mp q))
  refine hg n2 _ _ (Pg.wp_mono (fun z n3 q => ⟨of_decide_eq_true hl, ?_⟩) (fun _ _ q => q) (Pg.wp_bind.mp q))
  show u (((env.set i (evO oi (ea x))).set j (evO oj (eb y))).set l (evO ol (eg z))) k _ n3
  rw [he]; exact hu x y z k Xd n3 q
end
/-! isinstance, isupper -/
section
variable {α : Type} {e : α → D}
def t_isiV (n : String) (d : D) : Pg Bool := match tyD d with
  | some t => match kitB t n with
    | some b => .ret b
    | none => .stop
  | none => .stop
theorem T_isiV (n : String) (d : D) : ME (isiD n d) (t_isiV n d) D.bl := fun k Q X q => by
  unfold isiD
  unfold t_isiV at q
  cases ht : tyD d with
  | none => rw [ht] at q; exact q
  | some t =>
    rw [ht] at q
    dsimp only at q ⊢
    cases hb : kitB t n with
    | none => rw [hb] at q; exact q
    | some b => rw [hb] at q; exact q
theorem t_isiC {n t : String} {d : D} {b : Bool} (h1 : tyD d = some t) (h2 : kitB t n = some b) : MP (isiD n d) (.bl b) := by
  unfold isiD
  rw [h1]
  dsimp only
  rw [h2]
  exact MP.ret
theorem t_isiO {n t : String} {o : Option α} (h1 : ∀ a, tyD (e a) = some t) (h2 : kitB t n = some true) (h3 : kitB "NoneType" n = some false) : MP (isiD n (eO e o)) (.bl o.isSome) := by
  cases o with
  | none => exact t_isiC rfl h3
  | some a => exact t_isiC (h1 a) h2
theorem t_upper {s : Str} : MP (upperD (.str s)) (.bl (Txt.isupper s)) := MP.ret
end
end DL

/-! chains, sorted(list), typed -/
namespace DL
open PySem PySem.Spec L2
section
variable {α β γ : Type} {env : Env'} {ta tb tc : DE} {f g : D → D → Mo D} {ea : α → D} {eb : β → D} {ec : γ → D}
theorem chT_E {pa : Pg α} {pb : Pg β} {pc : Pg γ} {p : α → β → Bool} {q : β → γ → Bool} (ha : ME (ta env) pa ea) (hb : ME (tb env) pb eb) (hc : ME (tc env) pc ec) (hf : ∀ x y, MP (f (ea x) (eb y)) (.bl (p x y))) (hg : ∀ y z, MP (g (eb y) (ec z)) (.bl (q y z))) :
    ME (chT ta f tb g tc env) (pa.bind fun x => pb.bind fun y => if p x y = true then pc.bind fun z => .ret (q y z) else .ret false) D.bl := by
  refine ME.bnd ha fun x => ME.bnd hb fun y => ?_
  refine ME.rw (p := (Pg.ret (p x y)).bind fun b => if b = true then pc.bind fun z => .ret (q y z) else .ret false) (ME.bnd (e := D.bl) (MP.me (hf x y)) fun b => ?_) rfl
  cases b
  · exact MP.me MP.ret
  · show ME (bnd (tc env) fun e => g (eb y) e) (pc.bind fun z => .ret (q y z)) D.bl
    exact ME.bnd hc fun z => MP.me (hg y z)
/-- all three without stops -/
theorem chT_P {x : α} {y : β} {z : γ} {p q : Bool} (ha : MP (ta env) (ea x)) (hb : MP (tb env) (eb y)) (hc : MP (tc env) (ec z)) (hf : MP (f (ea x) (eb y)) (.bl p)) (hg : MP (g (eb y) (ec z)) (.bl q)) : MP (chT ta f tb g tc env) (.bl (p && q)) := by
  refine MP.bnd ha (MP.bnd hb (MP.bnd hf ?_))
  cases p
  · exact MP.ret
  · show MP (bnd (tc env) fun e => g (eb y) e) (.bl (true && q))
    exact MP.bnd hc (by rw [Bool.true_and]; exact hg)
/-- sorted(list) -/
def Pg.sortE (e : α → D) (l : List α) : Pg (List α) := Pg.req (srtOk (l.map e) = true) (.ret (l.mergeSort fun a b => leDT (e a) (e b)))
theorem t_sort {e : α → D} {l : List α} : ME (sortD (eL e l)) (Pg.sortE e l) (eL e) := by
  unfold sortD eL Pg.sortE
  dsimp only
  refine ME.need id (MP.me ?_)
  have em : (l.map e).mergeSort leDT = (l.mergeSort fun a b => leDT (e a) (e b)).map e := (List.map_mergeSort (f := e) (r := fun a b => leDT (e a) (e b)) (s := leDT) fun a _ b _ => rfl).symm
  rw [em]
  exact MP.ret
end
section
variable {α : Type} {e : α → D} {l : List α}
theorem t_revL : MP (revD (eL e l)) (eL e l.reverse) := by
  unfold revD eL
  dsimp only
  rw [← List.map_reverse]
  exact MP.ret
theorem t_revT : MP (revD (eT e l)) (eT e l.reverse) := by
  unfold revD eT
  dsimp only
  rw [← List.map_reverse]
  exact MP.ret
end
section
variable {α : Type} {e : α → D} {env : Env'} {ta tb : DE}
theorem dsp1_E {pa : Pg Str} {pb : Pg α} (ha : ME (ta env) pa D.str) (hb : ME (tb env) pb e) : ME (dsp1T ta tb env) (pa.bind fun k => pb.bind fun v => .ret [(k, v)]) (eD e) := ME.bnd ha fun k => ME.bnd hb fun v => MP.me MP.ret
end
/-! those that are not None -/
section
variable {α β : Type} {tg : Tg} {tt te : DE} {vs : List Nat} {env env1 : Env'} {e : α → D} {eb : β → D}
def Pg.lcS (g : α → β) (xs : List (Option α)) : Pg (List β) := Pg.req (xs.length ≤ sizeLine) (.ret (xs.filterMap fun o => o.map g))
theorem lc_S {g : α → β} (hno : noOwn vs env = true) (hk : kil vs 0 env = env1) (h : ∀ o, ∃ e1, stT tg (eO e o) env1 = some e1 ∧ MP (tt e1) (.bl o.isSome) ∧ ∀ a, o = some a → MP (te e1) (eb (g a))) (xs : List (Option α)) :
    ME (need (noOwn vs env = true) (bnd (noX (lcL tg tt te (killE vs env) (xs.map (eO e)) [])) fun l => ret (.lst l))) (Pg.lcS g xs) (fun l => D.lst (l.map eb)) := by
  refine ME.rw (lc_O (test := fun o => .ret o.isSome) (elt := fun o => match o with | some a => .ret (g a) | none => .stop) hno hk (fun o => ?_) xs) ?_
  · obtain ⟨e1, h1, h2, h3⟩ := h o
    refine ⟨e1, h1, h2.me, ?_⟩
    cases o with
    | none => exact fun n Q X q => q.elim
    | some a => exact (h3 a rfl).me
  · unfold Pg.lcO Pg.lcS
    congr 1
    rw [Pg.mapO_ret (g := fun o : Option α => o.map g) fun o _ => by cases o <;> rfl]
    rfl
end
end DL

/-! comprehensions with two clauses, list(zip), sorted(d.items()), min, typed -/
namespace DL
open PySem PySem.Spec L2
section
variable {α β γ : Type}
def Pg.inn (test : β → Pg Bool) (elt : β → Pg γ) : List β → List γ → Pg (List γ)
  | [], acc => .ret acc
  | y :: ys, acc => (test y).bind fun c => if c = true then (elt y).bind fun z => Pg.req (acc.length < sizeLine) (Pg.inn test elt ys (acc ++ [z])) else Pg.inn test elt ys acc
def Pg.out (test0 : α → Pg Bool) (its : α → Pg (List β)) (test : α → β → Pg Bool) (elt : α → β → Pg γ) : List α → List γ → Pg (List γ)
  | [], acc => .ret acc
  | x :: xs, acc => (test0 x).bind fun c => if c = true then (its x).bind fun ys => (Pg.inn (test x) (elt x) ys acc).bind fun acc' => Pg.out test0 its test elt xs acc' else Pg.out test0 its test elt xs acc
def Pg.lc2 (test0 : α → Pg Bool) (its : α → Pg (List β)) (test : α → β → Pg Bool) (elt : α → β → Pg γ) (xs : List α) : Pg (List γ) := Pg.nox (Pg.out test0 its test elt xs [])
variable {tg tg1 : Tg} {tt tt1 te : DE} {it it1 : DI} {vs vs1 : List Nat} {env env1 : Env'} {ex : α → D} {ey : β → D} {eb : γ → D}
theorem yesT_P : MP (yesT env) (.bl true) := MP.ret
theorem inn_m {test : β → Pg Bool} {elt : β → Pg γ} (h : ∀ y, ∃ e2, stT tg1 (ey y) env = some e2 ∧ ME (tt1 e2) (test y) D.bl ∧ ME (te e2) (elt y) eb) : ∀ (ys : List β) (acc : List γ) (n : Nat) (Q : List D → Nat → Prop) (X : XD → Nat → Prop),
    Pg.wp (Pg.inn test elt ys acc) n (fun l n' => Q (l.map eb) n') X → lcL tg1 tt1 te env (ys.map ey) (acc.map eb) n Q X
  | [], acc, n, Q, X, q => q
  | y :: ys, acc, n, Q, X, q => by
    obtain ⟨e1, h1, h2, h3⟩ := h y
    simp only [List.map_cons, lcL, h1]
    refine h2 n _ X (Pg.wp_mono (fun c n1 q => ?_) (fun _ _ q => q) (Pg.wp_bind.mp q))
    cases c with
    | true =>
      refine h3 n1 _ X (Pg.wp_mono (fun z n2 q => ?_) (fun _ _ q => q) (Pg.wp_bind.mp (show Pg.wp ((elt y).bind _) _ _ _ from q)))
      obtain ⟨q1, q2⟩ := Pg.wp_req.mp q
      refine ⟨by rw [List.length_map]; exact q1, ?_⟩
      have := inn_m h ys (acc ++ [z]) n2 Q X q2
      rw [List.map_append] at this
      exact this
    | false => exact inn_m h ys acc n1 Q X q
theorem out_m {test0 : α → Pg Bool} {its : α → Pg (List β)} {test : α → β → Pg Bool} {elt : α → β → Pg γ} {env2 : α → Env'}
    (h : ∀ x, ∃ e1, stT tg (ex x) env = some e1 ∧ ME (tt e1) (test0 x) D.bl ∧ ME (it1 e1) (its x) (List.map ey) ∧ kil vs1 0 e1 = env2 x ∧ ∀ y, ∃ e2, stT tg1 (ey y) (env2 x) = some e2 ∧ ME (tt1 e2) (test x y) D.bl ∧ ME (te e2) (elt x y) eb) : ∀ (xs : List α) (acc : List γ) (n : Nat) (Q : List D → Nat → Prop) (X : XD → Nat → Prop),
    Pg.wp (Pg.out test0 its test elt xs acc) n (fun l n' => Q (l.map eb) n') X → lcL2 tg tt it1 tg1 tt1 te vs1 env (xs.map ex) (acc.map eb) n Q X
  | [], acc, n, Q, X, q => q
  | x :: xs, acc, n, Q, X, q => by
    obtain ⟨e1, h1, h2, h3, h4, h5⟩ := h x
    simp only [List.map_cons, lcL2, h1]
    refine h2 n _ X (Pg.wp_mono (fun c n1 q => ?_) (fun _ _ q => q) (Pg.wp_bind.mp q))
    cases c with
    | true =>
      refine h3 n1 _ X (Pg.wp_mono (fun ys n2 q => ?_) (fun _ _ q => q) (Pg.wp_bind.mp (show Pg.wp ((its x).bind _) _ _ _ from q)))
      rw [kil_eq, h4]
      refine inn_m h5 ys acc n2 _ X (Pg.wp_mono (fun acc' n3 q => ?_) (fun _ _ q => q) (Pg.wp_bind.mp q))
      exact out_m h xs acc' n3 Q X q
    | false => exact out_m h xs acc n1 Q X q
theorem lc_2 {test0 : α → Pg Bool} {its : α → Pg (List β)} {test : α → β → Pg Bool} {elt : α → β → Pg γ} {env2 : α → Env'} (hno : noOwn vs env = true) (hk : kil vs 0 env = env1)
    (h : ∀ x, ∃ e1, stT tg (ex x) env1 = some e1 ∧ ME (tt e1) (test0 x) D.bl ∧ ME (it1 e1) (its x) (List.map ey) ∧ kil vs1 0 e1 = env2 x ∧ ∀ y, ∃ e2, stT tg1 (ey y) (env2 x) = some e2 ∧ ME (tt1 e2) (test x y) D.bl ∧ ME (te e2) (elt x y) eb) (xs : List α) :
    ME (need (noOwn vs env = true) (bnd (noX (lcL2 tg tt it1 tg1 tt1 te vs1 (killE vs env) (xs.map ex) [])) fun l => ret (.lst l))) (Pg.lc2 test0 its test elt xs) (fun l => D.lst (l.map eb)) := fun n Q X q => by
  refine ⟨hno, ?_⟩
  rw [kil_eq, hk]
  exact out_m h xs [] n _ _ (Pg.wp_nox.mp q)
theorem lcT2_P {p : Pg (List γ)} {xs : List α} (hit : MP (it env) (xs.map ex)) (h : ME (need (noOwn vs env = true) (bnd (noX (lcL2 tg tt it1 tg1 tt1 te vs1 (killE vs env) (xs.map ex) [])) fun l => ret (.lst l))) p (fun l => D.lst (l.map eb))) : ME (lcT2 tg it tt tg1 it1 tt1 te vs vs1 env) p (fun l => D.lst (l.map eb)) := MP.bndE hit h
theorem lcT2_E {q : Pg (List α)} {p : List α → Pg (List γ)} (hit : ME (it env) q (List.map ex)) (h : ∀ xs : List α, ME (need (noOwn vs env = true) (bnd (noX (lcL2 tg tt it1 tg1 tt1 te vs1 (killE vs env) (xs.map ex) [])) fun l => ret (.lst l))) (p xs) (fun l => D.lst (l.map eb))) : ME (lcT2 tg it tt tg1 it1 tt1 te vs vs1 env) (q.bind p) (fun l => D.lst (l.map eb)) := ME.bnd hit h
/-- without stops -/
theorem inn_ret {test : β → Pg Bool} {elt : β → Pg γ} (t : β → Bool) (g : β → γ) : ∀ (ys : List β) (acc : List γ), (∀ y ∈ ys, test y = .ret (t y)) → (∀ y ∈ ys, t y = true → elt y = .ret (g y)) → acc.length + ys.length ≤ sizeLine → Pg.inn test elt ys acc = .ret (acc ++ (ys.filter t).map g)
  | [], acc, _, _, _ => by simp [Pg.inn]
  | y :: ys, acc, h1, h2, hl => by
    simp only [List.length_cons] at hl
    rw [Pg.inn, h1 y List.mem_cons_self, Pg.bind_ret, List.filter_cons]
    by_cases q : t y = true
    · rw [if_pos q, if_pos q, h2 y List.mem_cons_self q, Pg.bind_ret, Pg.req_t (by omega), inn_ret t g ys _ (fun z hz => h1 z (List.mem_cons_of_mem _ hz)) (fun z hz => h2 z (List.mem_cons_of_mem _ hz)) (by simp; omega)]
      simp
    · rw [if_neg q, if_neg q, inn_ret t g ys _ (fun z hz => h1 z (List.mem_cons_of_mem _ hz)) (fun z hz => h2 z (List.mem_cons_of_mem _ hz)) (by omega)]
theorem out_ret {its : α → Pg (List β)} {test : α → β → Pg Bool} {elt : α → β → Pg γ} (ys : α → List β) (t : α → β → Bool) (g : α → β → γ) : ∀ (xs : List α) (acc : List γ), (∀ x ∈ xs, its x = .ret (ys x)) → (∀ x ∈ xs, ∀ y ∈ ys x, test x y = .ret (t x y)) → (∀ x ∈ xs, ∀ y ∈ ys x, t x y = true → elt x y = .ret (g x y)) → acc.length + (xs.flatMap ys).length ≤ sizeLine →
    Pg.out (fun _ => .ret true) its test elt xs acc = .ret (acc ++ xs.flatMap fun x => ((ys x).filter (t x)).map (g x))
  | [], acc, _, _, _, _ => by simp [Pg.out]
  | x :: xs, acc, h0, h1, h2, hl => by
    simp only [List.flatMap_cons, List.length_append] at hl
    rw [Pg.out, Pg.bind_ret, if_pos rfl, h0 x List.mem_cons_self, Pg.bind_ret, inn_ret (t x) (g x) _ _ (h1 x List.mem_cons_self) (h2 x List.mem_cons_self) (by omega), Pg.bind_ret,
      out_ret ys t g xs _ (fun z hz => h0 z (List.mem_cons_of_mem _ hz)) (fun z hz => h1 z (List.mem_cons_of_mem _ hz)) (fun z hz => h2 z (List.mem_cons_of_mem _ hz)) (by
        have := List.length_filter_le (t x) (ys x)
        simp only [List.length_append, List.length_map]; omega)]
    simp [List.append_assoc]
theorem lc2_ret {its : α → Pg (List β)} {test : α → β → Pg Bool} {elt : α → β → Pg γ} (ys : α → List β) (t : α → β → Bool) (g : α → β → γ) {xs : List α} (h0 : ∀ x ∈ xs, its x = .ret (ys x)) (h1 : ∀ x ∈ xs, ∀ y ∈ ys x, test x y = .ret (t x y)) (h2 : ∀ x ∈ xs, ∀ y ∈ ys x, t x y = true → elt x y = .ret (g x y)) (hl : (xs.flatMap ys).length ≤ sizeLine) :
    Pg.lc2 (fun _ => .ret true) its test elt xs = .ret (xs.flatMap fun x => ((ys x).filter (t x)).map (g x)) := by
  unfold Pg.lc2
  rw [out_ret ys t g xs [] h0 h1 h2 (by simpa using hl)]
  simp [Pg.nox]
/-! list(zip) -/
theorem zipW_map {e : α → D} {e2 : β → D} : ∀ (l : List α) (m : List β), List.zipWith (fun x y => D.tup [x, y]) (l.map e) (m.map e2) = (l.zip m).map (eP e e2)
  | [], _ => rfl
  | _ :: _, [] => rfl
  | a :: l, b :: m => by simp [zipW_map l m, eP]
theorem lzip_P {e : α → D} {e2 : β → D} {l : List α} {m : List β} {a b : D} (ha : rowD a = some (l.map e)) (hb : rowD b = some (m.map e2)) (hn : (∀ a, isTupD (e a) = false) ∨ ∀ b, isTupD (e2 b) = false) : MP (lzipD a b) (eL (eP e e2) (l.zip m)) := by
  unfold lzipD
  rw [ha, hb]
  refine MP.need (zipOk_e hn l m) ?_
  rw [zipW_map]
  exact MP.ret
/-! sorted(d.items()) -/
def Pg.sortI (e : α → D) (l : List (Str × α)) : Pg (List (Str × α)) := Pg.req (srtOk (l.map (eP D.str e)) = true ∧ l.all (fun p => PyData.strOk p.1) = true) (.ret (l.mergeSort fun a b => leDT (eP D.str e a) (eP D.str e b)))
theorem itL_map {e : α → D} : ∀ l : List (Str × α), itL (l.map fun p => .inr p.1) (l.map fun p => e p.2) = l.map (eP D.str e)
  | [] => rfl
  | p :: l => by
    have := itL_map (e := e) l
    unfold itL at this ⊢
    simp only [List.map_cons, List.zipWith_cons_cons, this]
    rfl
theorem t_sortI {e : α → D} {l : List (Str × α)} : ME (sortID (eD e l)) (Pg.sortI e l) (eL (eP D.str e)) := by
  unfold sortID eD Pg.sortI
  dsimp only
  rw [itL_map]
  refine ME.need (fun h => ⟨h.1, ?_⟩) (MP.me ?_)
  · have := h.2
    rw [List.all_map]
    exact this
  · have em : (l.map (eP D.str e)).mergeSort leDT = (l.mergeSort fun a b => leDT (eP D.str e a) (eP D.str e b)).map (eP D.str e) := (List.map_mergeSort (f := eP D.str e) (r := fun a b => leDT (eP D.str e a) (eP D.str e b)) (s := leDT) fun a _ b _ => rfl).symm
    rw [em]
    exact MP.ret
/-! min -/
def minT (f : α → α → Bool) (x : α) (xs : List α) : α := xs.foldl (fun a y => if f y a = true then y else a) x
def Pg.minE (e : α → D) : List α → Pg α
  | [] => .stop
  | x :: xs => Pg.req (minOk ((x :: xs).map e) = true) (.ret (minT (fun a b => PySem.W.dataLt (py (e a)) (py (e b))) x xs))
theorem minL_map {e : α → D} : ∀ (xs : List α) (x : α), minL (e x) (xs.map e) = e (minT (fun a b => PySem.W.dataLt (py (e a)) (py (e b))) x xs)
  | [], x => rfl
  | y :: ys, x => by
    show minL (if PySem.W.dataLt (py (e y)) (py (e x)) = true then e y else e x) (ys.map e) = e (minT _ (if PySem.W.dataLt (py (e y)) (py (e x)) = true then y else x) ys)
    by_cases h : PySem.W.dataLt (py (e y)) (py (e x)) = true
    · rw [if_pos h, if_pos h]; exact minL_map ys y
    · rw [if_neg h, if_neg h]; exact minL_map ys x
theorem t_min {e : α → D} {l : List α} : ME (minDD (eL e l)) (Pg.minE e l) e := by
  cases l with
  | nil => exact fun n Q X q => q.elim
  | cons x xs =>
    unfold minDD eL Pg.minE
    dsimp only [List.map_cons]
    refine ME.need id (MP.me ?_)
    rw [minL_map]
    exact MP.ret
def Pg.minK : List (List α) → Pg (List α)
  | [] => .stop
  | x :: xs => .ret (minT (fun a b => decide (a.length < b.length)) x xs)
theorem minKL_map {e : α → D} : ∀ (xs : List (List α)) (x : List α), minKL (eT e x) (xs.map (eT e)) = eT e (minT (fun a b => decide (a.length < b.length)) x xs)
  | [], x => rfl
  | y :: ys, x => by
    have hb : lenB (eT e y) (eT e x) = decide (y.length < x.length) := by
      unfold lenB eT
      rw [decide_eq_decide]
      show (y.map e).length < (x.map e).length ↔ _
      rw [List.length_map, List.length_map]
    show minKL (if lenB (eT e y) (eT e x) = true then eT e y else eT e x) (ys.map (eT e)) = eT e (minT _ (if decide (y.length < x.length) = true then y else x) ys)
    rw [hb]
    by_cases h : decide (y.length < x.length) = true
    · rw [if_pos h, if_pos h]; exact minKL_map ys y
    · rw [if_neg h, if_neg h]; exact minKL_map ys x
theorem t_minK {e : α → D} {l : List (List α)} : ME (minKD (eL (eT e) l)) (Pg.minK l) (eT e) := by
  cases l with
  | nil => exact fun n Q X q => q.elim
  | cons x xs =>
    unfold minKD eL Pg.minK
    dsimp only [List.map_cons]
    refine MP.me (MP.need ?_ ?_)
    · rw [← List.map_cons (f := eT e), List.all_map]
      exact List.all_eq_true.mpr fun _ _ => rfl
    · rw [minKL_map]
      exact MP.ret
end
end DL

/-! shown texts are short -/
namespace DL
open PySem PySem.Spec L2
theorem sz : sizeLine = 16777216 := rfl
theorem ok_app {a b : Str} (ha : PyData.strOk a = true) (hb : PyData.strOk b = true) : PyData.strOk (a ++ b) = true := strOk_append ha hb
theorem reprChar_lt {q c x : Nat} (hq : q < 128) (hc : c < 0x110000) (h : x ∈ Builtin.Str.reprChar q c) : x < 0x110000 := by
  have hex : ∀ w, ∀ y ∈ (List.replicate (w - ((Nat.toDigits 16 c).map Char.toNat).length) 48 ++ (Nat.toDigits 16 c).map Char.toNat), y < 0x110000 := by
    intro w y hy
    rcases List.mem_append.mp hy with hy | hy
    · have := (List.mem_replicate.mp hy).2; omega
    · obtain ⟨z, _, rfl⟩ := List.mem_map.mp hy
      exact char_lt z
  unfold Builtin.Str.reprChar at h
  dsimp only at h
  repeat' split at h
  all_goals first
    | (simp only [List.mem_cons, List.not_mem_nil, or_false] at h; omega)
    | (rcases List.mem_append.mp h with h | h
       · simp only [List.mem_cons, List.not_mem_nil, or_false] at h; omega
       · exact hex _ x h)
theorem reprQuote_lt (x : Str) : reprQuote x < 128 := by
  unfold reprQuote; split <;> decide
theorem ok_repr {x : Str} (h : PyData.strOk x = true) : PyData.strOk (reprText x) = true := by
  rw [strOk_iff] at *
  have hq := reprQuote_lt x
  have core : ∀ (l : List Nat) (acc : Array Nat), (∀ c ∈ l, c < 0x110000) → (∀ c ∈ acc.toList, c < 0x110000) → ∀ c ∈ (l.foldl (fun out c => out ++ (Builtin.Str.reprChar (reprQuote x) c).toArray) acc).toList, c < 0x110000 := by
    intro l
    induction l with
    | nil => exact fun acc _ h => h
    | cons a l ih =>
      intro acc h1 h2
      rw [List.foldl_cons]
      refine ih _ (fun c hc => h1 c (List.mem_cons_of_mem _ hc)) fun c hc => ?_
      rw [Array.toList_append] at hc
      rcases List.mem_append.mp hc with hc | hc
      · exact h2 c hc
      · exact reprChar_lt hq (h1 a List.mem_cons_self) hc
  intro c hc
  unfold reprText at hc
  rw [show (Str.mk ((x.cps.foldl (fun out c => out ++ (Builtin.Str.reprChar (reprQuote x) c).toArray) #[reprQuote x]).push (reprQuote x))).cps.toList = (x.cps.foldl (fun out c => out ++ (Builtin.Str.reprChar (reprQuote x) c).toArray) #[reprQuote x]).toList ++ [reprQuote x] from Array.toList_push] at hc
  rcases List.mem_append.mp hc with hc | hc
  · rw [← Array.foldl_toList] at hc
    exact core _ _ h (fun c hc => by
      simp only [List.mem_cons, List.not_mem_nil, or_false] at hc
      omega) c hc
  · simp only [List.mem_cons, List.not_mem_nil, or_false] at hc
    omega
theorem len_repr {x : Str} (h : PyData.strOk x = true) : (reprText x).length ≤ 10 * x.length + 2 := StrLaws.reprText_len x fun c hc => Nat.lt_of_lt_of_le (strOk_iff.mp h c hc) (by decide)
theorem len_app (a b : Str) : (a ++ b).length = a.length + b.length := by
  show (a.cps ++ b.cps).size = _
  rw [Array.size_append]; rfl
theorem textFrom_ok : ∀ (ts : List Str) (k : Nat) (acc : Str), PyData.strOk acc = true → (∀ t ∈ ts, PyData.strOk t = true) → PyData.strOk (textFrom k acc ts) = true
  | [], k, acc, h, _ => h
  | t :: ts, k, acc, h, ht => textFrom_ok ts (k + 1) _ (ok_app (ok_app h (ok_of _)) (ht t List.mem_cons_self)) fun x hx => ht x (List.mem_cons_of_mem _ hx)
theorem textFrom_le : ∀ (ts : List Str) (k : Nat) (acc : Str), (textFrom k acc ts).length ≤ acc.length + piled ts
  | [], k, acc => Nat.le_add_right _ _
  | t :: ts, k, acc => by
    have ih := textFrom_le ts (k + 1) (acc ++ (if k > 0 then ", " else "" : String) ++ t)
    rw [len_app, len_app] at ih
    rw [piled_cons]
    have : (Str.ofString (if k > 0 then ", " else "" : String)).length ≤ 2 := by
      split
      · decide +kernel
      · decide +kernel
    show (textFrom (k + 1) (acc ++ (if k > 0 then ", " else "" : String) ++ t) ts).length ≤ _
    omega
theorem join_ok : ∀ ts : List Str, (∀ t ∈ ts, PyData.strOk t = true) → PyData.strOk (Str.join ", " ts) = true
  | [], _ => ok_of ""
  | [x], h => h x List.mem_cons_self
  | x :: y :: r, h => by
    show PyData.strOk (x ++ ", " ++ Str.join ", " (y :: r)) = true
    exact ok_app (ok_app (h x List.mem_cons_self) (ok_of _)) (join_ok (y :: r) fun z hz => h z (List.mem_cons_of_mem _ hz))
theorem join_le (ts : List Str) : (Str.join ", " ts).length ≤ piled ts := by
  cases ts with
  | nil => exact Nat.le_refl 0
  | cons a l =>
    have := join_length_add (a :: l) (by simp)
    omega
/-! how much is shown at most -/
mutual
def rl : D → Nat
  | .str s => 10 * s.length + 2
  | .tup l | .lst l => rlL l + 3
  | .int _ => 1922
  | _ => 5
def rlL : List D → Nat
  | [] => 0
  | d :: l => rl d + 2 + rlL l
end
/-! may be shown -/
mutual
def okS : D → Bool
  | .non | .bl _ => true
  | .int i => decide (i.natAbs.log2 < 1920)
  | .str s => PyData.strOk s
  | .tup l | .lst l => okSL l
  | .dct _ _ | .deck | .obj _ => false
def okSL : List D → Bool
  | [] => true
  | d :: l => okS d && okSL l
end
mutual
theorem shw_ok : ∀ d : D, okS d = true → okD d = true ∧ (py d).showable = true ∧ PyData.strOk (shw d) = true ∧ (shw d).length ≤ rl d
  | .non, _ => ⟨rfl, rfl, ok_of "None", by
    show (Str.ofString "None").length ≤ 5
    decide +kernel⟩
  | .bl b, _ => ⟨rfl, rfl, by cases b; exact ok_of "False"; exact ok_of "True", by
    cases b
    · show (Str.ofString "False").length ≤ 5
      decide +kernel
    · show (Str.ofString "True").length ≤ 5
      decide +kernel⟩
  | .int i, h => by
    have h : i.natAbs.log2 < 1920 := of_decide_eq_true h
    refine ⟨rfl, decide_eq_true h, ok_of _, ?_⟩
    show (Str.ofString (toString i)).length ≤ 1922
    have := PyProof.Rows.int_text_len_1921 h
    omega
  | .str s, h => ⟨rfl, rfl, ok_repr h, len_repr h⟩
  | .tup l, h => by
    obtain ⟨h1, h2, h3, h4⟩ := shw_okL l h
    refine ⟨h1, h2, ?_, ?_⟩
    · show PyData.strOk (tupleText (PyData.shownAll (pyL l))) = true
      unfold tupleText
      refine ok_app (ok_app (ok_of _) (join_ok _ h3)) (by split <;> exact ok_of _)
    · show (tupleText (PyData.shownAll (pyL l))).length ≤ rlL l + 3
      unfold tupleText
      rw [len_app, len_app]
      have a : (Str.ofString "(").length = 1 := by decide +kernel
      have b := join_le (PyData.shownAll (pyL l))
      have c : (Str.ofString (if (PyData.shownAll (pyL l)).length == 1 then ",)" else ")" : String)).length ≤ 2 := by
        split
        · decide +kernel
        · decide +kernel
      omega
  | .lst l, h => by
    obtain ⟨h1, h2, h3, h4⟩ := shw_okL l h
    refine ⟨h1, h2, ?_, ?_⟩
    · show PyData.strOk (listText (PyData.shownAll (pyL l))) = true
      unfold listText
      exact ok_app (textFrom_ok _ _ _ (ok_of _) h3) (ok_of _)
    · show (listText (PyData.shownAll (pyL l))).length ≤ rlL l + 3
      unfold listText
      rw [len_app]
      have a : (Str.ofString "[").length = 1 := by decide +kernel
      have b := textFrom_le (PyData.shownAll (pyL l)) 0 "["
      have c : (Str.ofString "]").length = 1 := by decide +kernel
      omega
  | .dct _ _, h => by cases h
  | .deck, h => by cases h
  | .obj _, h => by cases h
theorem shw_okL : ∀ l : List D, okSL l = true → okL l = true ∧ PyData.showableAll (pyL l) = true ∧ (∀ t ∈ PyData.shownAll (pyL l), PyData.strOk t = true) ∧ piled (PyData.shownAll (pyL l)) ≤ rlL l
  | [], _ => ⟨rfl, rfl, fun _ h => (by cases h), Nat.le_refl 0⟩
  | d :: l, h => by
    simp only [okSL, Bool.and_eq_true] at h
    obtain ⟨a1, a2, a3, a4⟩ := shw_ok d h.1
    obtain ⟨b1, b2, b3, b4⟩ := shw_okL l h.2
    refine ⟨by simp [okL, a1, b1], by simp [pyL, PyData.showableAll, a2, b2], fun t ht => ?_, ?_⟩
    · simp only [pyL, PyData.shownAll] at ht
      rcases List.mem_cons.mp ht with rfl | ht
      · exact a3
      · exact b3 t ht
    · simp only [pyL, PyData.shownAll, rlL]
      rw [piled_cons]
      have : (PyData.shown (py d)).length ≤ rl d := a4
      omega
end
theorem shOk_of {d : D} (h : okS d = true) (hd : (py d).depth ≤ 60) (hl : rl d ≤ sizeLine) : shOk d = true := by
  obtain ⟨h1, h2, h3, h4⟩ := shw_ok d h
  unfold shOk
  simp only [Bool.and_eq_true, decide_eq_true_eq]
  exact ⟨⟨⟨⟨h1, h2⟩, hd⟩, Nat.le_trans h4 hl⟩, h3⟩
/-- values of a kind are shown with at most so many signs -/
structure Wd {α : Type} (e : α → D) (P : α → Prop) (w : Nat) : Prop where
  ok : ∀ a, P a → okS (e a) = true
  le : ∀ a, P a → rl (e a) ≤ w
theorem Wd.str (n : Nat) : Wd D.str (fun s => PyData.strOk s = true ∧ s.length ≤ n) (10 * n + 2) := ⟨fun _ h => h.1, fun s h => by show 10 * s.length + 2 ≤ _; have := h.2; omega⟩
theorem Wd.bl : Wd D.bl (fun _ => True) 5 := ⟨fun _ _ => rfl, fun _ _ => Nat.le_refl _⟩
theorem Wd.int : Wd D.int (fun i => i.natAbs.log2 < 1920) 1922 := ⟨fun _ h => decide_eq_true h, fun _ _ => Nat.le_refl _⟩
section
variable {α β γ : Type} {e : α → D} {e1 : α → D} {e2 : β → D} {e3 : γ → D} {P : α → Prop} {P2 : β → Prop} {P3 : γ → Prop} {w w2 w3 : Nat}
theorem Wd.rows (h : Wd e P w) : ∀ l : List α, (∀ a ∈ l, P a) → okSL (l.map e) = true ∧ rlL (l.map e) ≤ l.length * (w + 2)
  | [], _ => ⟨rfl, Nat.zero_le _⟩
  | a :: l, ha => by
    obtain ⟨h1, h2⟩ := h.rows l fun x hx => ha x (List.mem_cons_of_mem _ hx)
    have h3 := h.le a (ha a List.mem_cons_self)
    refine ⟨by simp [okSL, h.ok a (ha a List.mem_cons_self), h1], ?_⟩
    simp only [List.map_cons, rlL, List.length_cons, Nat.succ_mul]
    omega
theorem Wd.tup (n : Nat) (h : Wd e P w) : Wd (eT e) (fun l => l.length ≤ n ∧ ∀ a ∈ l, P a) (n * (w + 2) + 3) := ⟨fun l hl => (h.rows l hl.2).1, fun l hl => by
  have := (h.rows l hl.2).2
  have h2 : l.length * (w + 2) ≤ n * (w + 2) := Nat.mul_le_mul_right _ hl.1
  show rlL (l.map e) + 3 ≤ _
  omega⟩
theorem Wd.lst (n : Nat) (h : Wd e P w) : Wd (eL e) (fun l => l.length ≤ n ∧ ∀ a ∈ l, P a) (n * (w + 2) + 3) := ⟨fun l hl => (h.rows l hl.2).1, fun l hl => by
  have := (h.rows l hl.2).2
  have h2 : l.length * (w + 2) ≤ n * (w + 2) := Nat.mul_le_mul_right _ hl.1
  show rlL (l.map e) + 3 ≤ _
  omega⟩
theorem Wd.pair (h1 : Wd e1 P w) (h2 : Wd e2 P2 w2) : Wd (eP e1 e2) (fun p => P p.1 ∧ P2 p.2) (w + w2 + 7) := ⟨fun p hp => by simp [okS, okSL, h1.ok _ hp.1, h2.ok _ hp.2], fun p hp => by
  have a := h1.le _ hp.1
  have b := h2.le _ hp.2
  simp only [rl, rlL]; omega⟩
theorem Wd.pair3 (h1 : Wd e1 P w) (h2 : Wd e2 P2 w2) (h3 : Wd e3 P3 w3) : Wd (eP3 e1 e2 e3) (fun p => P p.1 ∧ P2 p.2.1 ∧ P3 p.2.2) (w + w2 + w3 + 9) := ⟨fun p hp => by simp [okS, okSL, h1.ok _ hp.1, h2.ok _ hp.2.1, h3.ok _ hp.2.2], fun p hp => by
  have a := h1.le _ hp.1
  have b := h2.le _ hp.2.1
  have c := h3.le _ hp.2.2
  simp only [rl, rlL]; omega⟩
theorem Wd.opt (h : Wd e P w) : Wd (eO e) (fun o => ∀ a, o = some a → P a) (max w 5) := ⟨fun o ho => by
  cases o
  · rfl
  · exact h.ok _ (ho _ rfl), fun o ho => by
  cases o
  · show 5 ≤ _; omega
  · have := h.le _ (ho _ rfl)
    show rl (e _) ≤ _; omega⟩
theorem Wd.sh {k : Nat} (h : Wd e P w) (q : EqE e k) (hk : k ≤ 60) (hw : w ≤ 16777216) {a : α} (ha : P a) : shOk (e a) = true := shOk_of (h.ok a ha) (Nat.le_trans (q.dep a) hk) (Nat.le_trans (h.le a ha) (by rw [sz]; exact hw))
theorem Wd.mono {P' : α → Prop} (h : Wd e P w) (hp : ∀ a, P' a → P a) : Wd e P' w := ⟨fun a ha => h.ok a (hp a ha), fun a ha => h.le a (hp a ha)⟩
end
end DL

/-! typed computations run -/
namespace DL
open PySem PySem.Spec L2
section
variable {α β γ σ ρ : Type} {p : Pg α} {f : α → Pg β} {b b1 b2 : Nat} {P Q : α → Prop} {R : β → Prop}
/-- at most b draws, a value as Q says -/
def Rn (p : Pg α) (b : Nat) (Q : α → Prop) : Prop := ∀ (n : Nat) (Q' : α → Nat → Prop) (X : XD → Nat → Prop), b ≤ n → (∀ a n', n' ≤ n → n ≤ n' + b → Q a → Q' a n') → Pg.wp p n Q' X
theorem Rn.ret {a : α} (h : Q a) : Rn (.ret a) b Q := fun n Q' X hb hq => hq a n (Nat.le_refl _) (Nat.le_add_right _ _) h
theorem Rn.mono (h : Rn p b1 P) (hb : b1 ≤ b) (hq : ∀ a, P a → Q a) : Rn p b Q := fun n Q' X hn q => h n Q' X (by omega) fun a n' h1 h2 h3 => q a n' h1 (by omega) (hq a h3)
theorem Rn.imp (h : Rn p b P) (hq : ∀ a, P a → Q a) : Rn p b Q := h.mono (Nat.le_refl _) hq
/-- one behind the other -/
theorem Rn.seq (b1 : Nat) (h : Rn p b1 P) (hb : b1 ≤ b) (hf : ∀ a, P a → Rn (f a) (b - b1) R) : Rn (p.bind f) b R := fun n Q' X hn q => Pg.wp_bind.mpr (h n _ X (by omega) fun a n1 h1 h2 h3 => hf a h3 n1 Q' X (by omega) fun c n2 k1 k2 k3 => q c n2 (by omega) (by omega) k3)
theorem Rn.pure {a : α} (h : p = .ret a) (hf : Rn (f a) b R) : Rn (p.bind f) b R := by rw [h]; exact hf
theorem Rn.req {c : Prop} [Decidable c] (hc : c) (h : Rn p b Q) : Rn (Pg.req c p) b Q := by rw [Pg.req_t hc]; exact h
theorem Rn.draws {m : Int} (h0 : 0 < m) (h1 : m < 1073741824) : Rn (Pg.draws m) 1 fun r => 0 ≤ r ∧ r < m := fun n Q' X hn q => ⟨by omega, h0, h1, fun r k1 k2 => q r (n - 1) (by omega) (by omega) ⟨k1, k2⟩⟩
theorem Rn.nox (h : Rn p b Q) : Rn (Pg.nox p) b Q := fun n Q' X hn q => Pg.wp_nox.mpr (h n Q' _ hn q)
theorem Rn.ite {c : Prop} [Decidable c] {p q : Pg α} (h1 : c → Rn p b Q) (h2 : ¬ c → Rn q b Q) : Rn (if c then p else q) b Q := by
  split
  · exact h1 (by assumption)
  · exact h2 (by assumption)
theorem Rn.ifNo {o : Option γ} {p : Pg α} {q : γ → Pg α} (h1 : o = none → Rn p b Q) (h2 : ∀ x, o = some x → Rn (q x) b Q) : Rn (DL.ifNo o p q) b Q := by
  cases o with
  | none => exact h1 rfl
  | some x => exact h2 x rfl
theorem Rn.at_ {l : List α} {i : Int} (h0 : 0 ≤ i) (h1 : i < l.length) : Rn (Pg.at_ l i) 0 fun a => a ∈ l := by
  obtain ⟨m, rfl⟩ := Int.eq_ofNat_of_zero_le h0
  have hl : m < l.length := by omega
  unfold Pg.at_
  rw [atI_nat (List.getElem?_eq_getElem hl)]
  exact Rn.ret (List.getElem_mem hl)
theorem at_nat {l : List α} {k : Nat} {a : α} (h : l[k]? = some a) : Pg.at_ l (k : Int) = .ret a := by
  unfold Pg.at_
  rw [atI_nat h]
theorem at_0 {a : α} {l : List α} : Pg.at_ (a :: l) 0 = .ret a := at_nat (k := 0) rfl
theorem at_1 {a b : α} {l : List α} : Pg.at_ (a :: b :: l) 1 = .ret b := at_nat (k := 1) rfl
theorem at_2 {a b c : α} {l : List α} : Pg.at_ (a :: b :: c :: l) 2 = .ret c := at_nat (k := 2) rfl
theorem at_3 {a b c d : α} {l : List α} : Pg.at_ (a :: b :: c :: d :: l) 3 = .ret d := at_nat (k := 3) rfl
theorem atP2_0 {p : α × α} : Pg.atP2 p 0 = .ret p.1 := rfl
theorem atP2_1 {p : α × α} : Pg.atP2 p 1 = .ret p.2 := rfl
theorem Rn.one {l : List α} (h : l ≠ []) (h2 : l.length < 1073741824) : Rn (t_one l) 1 fun a => a ∈ l := by
  have hp := List.length_pos_iff.mpr h
  exact Rn.seq 1 (Rn.draws (by omega) (by omega)) (Nat.le_refl _) fun i hi => Rn.at_ hi.1 hi.2
theorem Rn.oneS {z : Str} (h : z.cps.toList ≠ []) (h2 : z.cps.toList.length ≤ 1000) : Rn (t_oneS z) 1 fun a => ∃ c ∈ z.cps.toList, a = ⟨#[c]⟩ := by
  have hp := List.length_pos_iff.mpr h
  have e : z.length = z.cps.toList.length := by simp [Str.length]
  have hz := le_sz (n := z.length) (by omega)
  refine Rn.req hz (Rn.seq 1 (Rn.draws (by omega) (by omega)) (Nat.le_refl _) fun i hi => ?_)
  unfold Pg.atS
  exact Rn.req hz (Rn.seq 0 (Rn.at_ hi.1 (by rw [← e]; exact hi.2)) (Nat.le_refl _) fun c hc => Rn.ret ⟨c, hc, rfl⟩)
theorem Rn.mapM {f : α → Pg β} {xs : List α} (S : α → β → Prop) (c : Nat) (h : ∀ x ∈ xs, Rn (f x) c (S x)) : Rn (Pg.mapM f xs) (xs.length * c) (All2 S xs) := by
  induction xs with
  | nil => exact Rn.ret .nil
  | cons x xs ih =>
    have e : (x :: xs).length * c = c + xs.length * c := by rw [List.length_cons, Nat.succ_mul, Nat.add_comm]
    refine Rn.seq c (h x List.mem_cons_self) (by omega) fun y hy => ?_
    refine Rn.seq (xs.length * c) (ih fun z hz => h z (List.mem_cons_of_mem _ hz)) (by omega) fun ys hys => Rn.ret (.cons hy hys)
theorem Rn.lcM {f : α → Pg β} {xs : List α} (S : α → β → Prop) (c : Nat) (hl : xs.length ≤ 1000) (h : ∀ x ∈ xs, Rn (f x) c (S x)) : Rn (Pg.lcM f xs) (xs.length * c) (All2 S xs) := Rn.req (le_sz hl) (Rn.nox (Rn.mapM S c h))
/-- tests that may draw -/
theorem Rn.lcB {test : α → Pg Bool} {elt : α → Pg β} {xs : List α} (S : α → β → Prop) (c : Nat) (hl : xs.length ≤ 1000) (h : ∀ x ∈ xs, Rn ((test x).bind fun c => if c = true then (elt x).bind fun y => .ret (some y) else .ret none) c fun o => ∀ y, o = some y → S x y) :
    Rn (Pg.lcB test elt xs) (xs.length * c) (fun ys => ∃ zs, List.Sublist zs xs ∧ All2 S zs ys) := by
  refine Rn.req (le_sz hl) (Rn.nox ?_)
  clear hl
  induction xs with
  | nil => exact Rn.ret ⟨[], .slnil, .nil⟩
  | cons x xs ih =>
    have e : (x :: xs).length * c = c + xs.length * c := by rw [List.length_cons, Nat.succ_mul, Nat.add_comm]
    refine Rn.seq c (h x List.mem_cons_self) (by omega) fun o ho => ?_
    refine Rn.seq (xs.length * c) (ih fun z hz => h z (List.mem_cons_of_mem _ hz)) (by omega) fun ys hys => ?_
    obtain ⟨zs, h1, h2⟩ := hys
    cases o with
    | none => exact Rn.ret ⟨zs, .cons _ h1, h2⟩
    | some y => exact Rn.ret ⟨x :: zs, .cons_cons _ h1, .cons (ho y rfl) h2⟩
theorem Rn.foldP {body : α → σ → Pg σ} {xs : List α} {s0 : σ} (I : List α → σ → Prop) (c : Nat) (h0 : I [] s0) (h : ∀ done x todo s, xs = done ++ x :: todo → I done s → Rn (body x s) c (I (done ++ [x]))) : Rn (Pg.foldP body xs s0) (xs.length * c) (I xs) := by
  have core : ∀ (todo done : List α) (s : σ), xs = done ++ todo → I done s → Rn (Pg.foldP body todo s) (todo.length * c) (I xs) := by
    intro todo
    induction todo with
    | nil => intro done s e hi; rw [List.append_nil] at e; subst e; exact Rn.ret hi
    | cons x todo ih =>
      intro done s e hi
      have q : (x :: todo).length * c = c + todo.length * c := by rw [List.length_cons, Nat.succ_mul, Nat.add_comm]
      refine Rn.seq c (h done x todo s e hi) (by omega) fun s' hs => ?_
      refine (ih (done ++ [x]) s' (by rw [e]; simp) hs).mono (by omega) fun _ z => z
  exact core xs [] s0 rfl h0
theorem Rn.forP {body : α → σ → Pg (Ct σ ρ)} {xs : List α} {s0 : σ} (I : List α → σ → Prop) (E : ρ → Prop) (c : Nat) (h0 : I [] s0) (h : ∀ done x todo s, xs = done ++ x :: todo → I done s → Rn (body x s) c fun r => match r with | .nx s' => I (done ++ [x]) s' | .ex e => E e) :
    Rn (Pg.forP body xs s0) (xs.length * c) fun r => match r with | .nx s' => I xs s' | .ex e => E e := by
  have core : ∀ (todo done : List α) (s : σ), xs = done ++ todo → I done s → Rn (Pg.forP body todo s) (todo.length * c) fun r => match r with | .nx s' => I xs s' | .ex e => E e := by
    intro todo
    induction todo with
    | nil => intro done s e hi; rw [List.append_nil] at e; subst e; exact Rn.ret hi
    | cons x todo ih =>
      intro done s e hi
      have q : (x :: todo).length * c = c + todo.length * c := by rw [List.length_cons, Nat.succ_mul, Nat.add_comm]
      refine Rn.seq c (h done x todo s e hi) (by omega) fun r hr => ?_
      cases r with
      | nx s' => exact (ih (done ++ [x]) s' (by rw [e]; simp) hr).mono (by omega) fun _ z => z
      | ex e => exact Rn.ret hr
  exact core xs [] s0 rfl h0
/-- while: a measure, the test without draws -/
theorem Rn.whF {cond : σ → Pg Bool} {body : σ → Pg σ} {s0 : σ} {f : Nat} (I : σ → Prop) (μ : σ → Nat) (t : σ → Bool) (c B : Nat) (h0 : I s0) (hf : μ s0 < f) (hB : μ s0 ≤ B) (hc : ∀ s, I s → cond s = .ret (t s)) (h : ∀ s, I s → t s = true → 0 < μ s ∧ Rn (body s) c fun s' => I s' ∧ μ s' < μ s) :
    Rn (Pg.whF cond body f s0) (B * c) fun s => I s ∧ t s = false := by
  have core : ∀ (f : Nat) (s : σ), I s → μ s < f → Rn (Pg.whF cond body f s) (μ s * c) fun s => I s ∧ t s = false := by
    intro f
    induction f with
    | zero => intro s _ h; omega
    | succ f ih =>
      intro s hi hm
      unfold Pg.whF
      refine Rn.pure (hc s hi) ?_
      cases e : t s with
      | true =>
        obtain ⟨k1, k2⟩ := h s hi e
        have q : c ≤ μ s * c := by
          have := Nat.mul_le_mul_right c k1
          omega
        refine Rn.seq c k2 q fun s' hs => ?_
        have q2 : μ s' * c + c ≤ μ s * c := by rw [← Nat.succ_mul]; exact Nat.mul_le_mul_right c hs.2
        exact (ih s' hs.1 (by omega)).mono (by omega) fun _ z => z
      | false => exact Rn.ret ⟨hi, e⟩
  exact (core f s0 h0 hf).mono (Nat.mul_le_mul_right _ hB) fun _ z => z
theorem Rn.elim {p : Pg (Ct σ ρ)} {g : σ → Pg β} {k : ρ → Pg β} {E : ρ → Prop} {P : σ → Prop} (b1 : Nat) (h : Rn p b1 fun r => match r with | .nx s' => P s' | .ex e => E e) (hb : b1 ≤ b) (hg : ∀ s, P s → Rn (g s) (b - b1) R) (hk : ∀ e, E e → Rn (k e) (b - b1) R) : Rn (p.bind (Ct.elim g k)) b R :=
  Rn.seq b1 h hb fun r hr => by
    cases r with
    | nx s => exact hg s hr
    | ex e => exact hk e hr
/-- a law's end -/
theorem law_rn {p : Pg Bool} (b : Nat) (hb : b ≤ most) (h : Rn p b (· = true)) : Pg.wp p most (fun b _ => b = true) fun _ _ => False := h most _ _ hb fun _ _ _ _ h => h
theorem app_t {xs : List α} {x : α} {m : List α → Pg β} (h : xs.length < 1000) : Pg.app xs x m = m (xs ++ [x]) := Pg.req_t (Nat.lt_of_lt_of_le h (le_sz (Nat.le_refl _)))
theorem ext_t {xs ys : List α} {m : List α → Pg β} (h : xs.length + ys.length ≤ 1000) : Pg.ext xs ys m = m (xs ++ ys) := Pg.req_t (le_sz h)
theorem lcA_t {g : α → β} {xs : List α} (h : xs.length ≤ 1000) : Pg.lcA g xs = .ret (xs.map g) := Pg.req_t (le_sz h)
theorem lcF_t {q : α → Bool} {g : α → β} {xs : List α} (h : xs.length ≤ 1000) : Pg.lcF q g xs = .ret ((xs.filter q).map g) := Pg.req_t (le_sz h)
theorem rng1_t {j : Int} (h : -1000 ≤ j ∧ j ≤ 1000000) : Pg.rng1 j = .ret (rng 0 j) := Pg.req_t (by omega)
theorem rng_len (i j : Int) : (rng i j).length = (j - i).toNat := by simp [rng]
theorem mem_rng {i j k : Int} : k ∈ rng i j ↔ i ≤ k ∧ k < j := by
  unfold rng
  simp only [List.mem_map, List.mem_range]
  constructor
  · rintro ⟨n, h1, h2⟩; omega
  · intro h; exact ⟨(k - i).toNat, by omega, by omega⟩
theorem mapM_e {f : α → Pg β} (g : α → β) {xs : List α} (h : ∀ x ∈ xs, f x = .ret (g x)) (hl : xs.length ≤ 1000) : Pg.lcM f xs = .ret (xs.map g) := by
  unfold Pg.lcM
  rw [Pg.req_t (le_sz hl), Pg.mapM_ret h]
  rfl
theorem lcB_e {test : α → Pg Bool} {elt : α → Pg β} (t : α → Bool) (g : α → β) {xs : List α} (h : ∀ x ∈ xs, test x = .ret (t x)) (h2 : ∀ x ∈ xs, t x = true → elt x = .ret (g x)) (hl : xs.length ≤ 1000) : Pg.lcB test elt xs = .ret ((xs.filter t).map g) := by
  unfold Pg.lcB Pg.lcO
  rw [Pg.req_t (le_sz hl), Pg.mapO_ret (g := fun x => if t x = true then some (g x) else none) fun x hx => by
    rw [h x hx, Pg.bind_ret]
    by_cases q : t x = true
    · rw [if_pos q, if_pos q, h2 x hx q]; rfl
    · rw [if_neg q, if_neg q]]
  show Pg.ret _ = _
  congr 1
  clear h h2 hl
  induction xs with
  | nil => rfl
  | cons x xs ih =>
    rw [List.filterMap_cons, List.filter_cons]
    by_cases q : t x = true
    · rw [if_pos q, if_pos q]; simp [ih]
    · rw [if_neg q, if_neg q]; exact ih
end
end DL

/-! words -/
namespace DL
open PySem PySem.Spec L2
def cpsS (s : Str) : List Nat := s.cps.toList
def mkS (l : List Nat) : Str := ⟨l.toArray⟩
theorem cps_mk (l : List Nat) : cpsS (mkS l) = l := rfl
theorem mk_cps (s : Str) : mkS (cpsS s) = s := rfl
theorem mkS_inj {a b : List Nat} (h : mkS a = mkS b) : a = b := congrArg cpsS h
theorem len_mk (l : List Nat) : (mkS l).length = l.length := by simp [mkS, Str.length]
theorem len_cps (s : Str) : (cpsS s).length = s.length := by simp [cpsS, Str.length]
theorem mk_app (a b : List Nat) : mkS a ++ mkS b = mkS (a ++ b) := by
  show Str.mk _ = Str.mk _
  congr 1
  show a.toArray ++ b.toArray = _
  simp
theorem cps_app (a b : Str) : cpsS (a ++ b) = cpsS a ++ cpsS b := by
  show (a.cps ++ b.cps).toList = _
  rw [Array.toList_append]; rfl
theorem cps_inj {a b : Str} (h : cpsS a = cpsS b) : a = b := by rw [← mk_cps a, ← mk_cps b, h]
theorem cut_from' {α : Type} (l : List α) (k : Nat) : cutL l (some (k : Int)) none = l.drop k := by
  unfold cutL
  rw [HT.sIx_none, show HT.sIx l.length 0 (some (k : Int)) = min k l.length from HT.sIx_nat _ _ k]
  by_cases h : k ≤ l.length
  · rw [Nat.min_eq_left h, List.take_of_length_le (by simp)]
  · rw [Nat.min_eq_right (by omega), Nat.sub_self, List.take_zero, List.drop_of_length_le (by omega)]
theorem cut_to' {α : Type} (l : List α) (k : Nat) : cutL l none (some (k : Int)) = l.take k := by
  unfold cutL
  rw [HT.sIx_none, show HT.sIx l.length l.length (some (k : Int)) = min k l.length from HT.sIx_nat _ _ k]
  simp only [List.drop_zero, Nat.sub_zero]
  by_cases h : k ≤ l.length
  · rw [Nat.min_eq_left h]
  · rw [Nat.min_eq_right (by omega), List.take_length, List.take_of_length_le (by omega)]
theorem cut_1 {α : Type} (l : List α) : cutL l (some 1) none = l.drop 1 := cut_from' l 1
theorem cutS_1 (s : Str) : cutS s (some 1) none = mkS ((cpsS s).drop 1) := by
  unfold cutS
  rw [HT.sIx_none, show HT.sIx s.length 0 (some 1) = min 1 s.length from HT.sIx_nat _ _ 1]
  show mkS ((cpsS s).drop _ |>.take _) = _
  congr 1
  have := len_cps s
  by_cases h : 1 ≤ s.length
  · rw [Nat.min_eq_left h, List.take_of_length_le (by simp; omega)]
  · rw [Nat.min_eq_right (by omega), Nat.sub_self, List.take_zero, List.drop_of_length_le (by omega)]
theorem mk_ok {l : List Nat} (h : ∀ c ∈ l, c < 0x110000) : PyData.strOk (mkS l) = true := strOk_iff.mpr h
/-- one to eight letters -/
def IsWord (s : Str) : Prop := 1 ≤ s.length ∧ s.length ≤ 8 ∧ ∀ c ∈ cpsS s, 97 ≤ c ∧ c ≤ 122
theorem IsWord.ok {s : Str} (h : IsWord s) : PyData.strOk s = true := strOk_iff.mpr fun c hc => by
  have := h.2.2 c hc; omega
/-- letters of words -/
def abc : List Nat := [97, 98, 99, 109, 121, 122]
/-- a drawn word -/
def DW (l : List Nat) : Prop := 1 ≤ l.length ∧ l.length ≤ 8 ∧ ∀ c ∈ l, c ∈ abc
theorem abc_in {c : Nat} (h : c ∈ abc) : 97 ≤ c ∧ c ≤ 122 := by
  simp only [abc, List.mem_cons, List.not_mem_nil, or_false] at h
  omega
theorem join_nil : ∀ ls : List (List Nat), Str.join "" (ls.map mkS) = mkS ls.flatten
  | [] => rfl
  | [x] => by simp [Str.join]
  | x :: y :: r => by
    have ih := join_nil (y :: r)
    show mkS x ++ "" ++ Str.join "" ((y :: r).map mkS) = _
    rw [ih, show mkS x ++ (Str.ofString "") = mkS x from by
      show mkS x ++ mkS [] = _
      rw [mk_app, List.append_nil], mk_app]
    rfl
theorem txt_join_nil (ls : List (List Nat)) : Txt.join (Str.ofString "") (ls.map mkS) = mkS ls.flatten := by
  rw [TL.join_eq]; exact join_nil ls
theorem nodup_le {α : Type} [DecidableEq α] : ∀ (l m : List α), l.Nodup → (∀ x ∈ l, x ∈ m) → l.length ≤ m.length
  | [], _, _, _ => Nat.zero_le _
  | x :: l, m, hn, h => by
    obtain ⟨h1, h2⟩ := List.nodup_cons.mp hn
    have hx := h x List.mem_cons_self
    have := nodup_le l (m.erase x) h2 fun y hy => (List.mem_erase_of_ne fun e => h1 (by rw [← e]; exact hy)).mpr (h y (List.mem_cons_of_mem _ hy))
    rw [List.length_erase_of_mem hx] at this
    have hp : 0 < m.length := List.length_pos_of_mem hx
    rw [List.length_cons]
    omega
/-- the next word to be tried -/
def nxW (w : List Nat) : List Nat := if w.length = 8 then w.drop 1 ++ [113] else w ++ [113]
def sqW (w : List Nat) : Nat → List Nat
  | 0 => w
  | i + 1 => nxW (sqW w i)
theorem sqW_eq {w : List Nat} (h : DW w) : ∀ i, i ≤ 8 → sqW w i = w.drop (w.length + i - 8) ++ List.replicate i 113
  | 0, _ => by
    have := h.2.1
    simp [sqW, show w.length - 8 = 0 by omega]
  | i + 1, hi => by
    have h1 := h.1
    have h2 := h.2.1
    have ih := sqW_eq h i (by omega)
    have hl : (sqW w i).length = w.length - (w.length + i - 8) + i := by rw [ih]; simp
    show nxW (sqW w i) = _
    unfold nxW
    rw [hl, ih]
    by_cases hc : w.length - (w.length + i - 8) + i = 8
    · rw [if_pos hc]
      have hd : w.drop (w.length + i - 8) ≠ [] := fun e => by
        have := congrArg List.length e
        simp at this
        omega
      rw [List.drop_one, List.tail_append_of_ne_nil hd, List.append_assoc, List.tail_drop, show [113] = List.replicate 1 113 from rfl, List.replicate_append_replicate]
      congr 2
      omega
    · rw [if_neg hc, List.append_assoc, show [113] = List.replicate 1 113 from rfl, List.replicate_append_replicate]
      congr 2
      omega
theorem sqW_cnt {w : List Nat} (h : DW w) {i : Nat} (hi : i ≤ 8) : (sqW w i).count 113 = i := by
  rw [sqW_eq h i hi, List.count_append, List.count_replicate_self, List.count_eq_zero.mpr, Nat.zero_add]
  intro hm
  have := h.2.2 113 (List.mem_of_mem_drop hm)
  revert this
  decide
theorem sqW_ok {w : List Nat} (h : DW w) {i : Nat} (hi : i ≤ 8) : IsWord (mkS (sqW w i)) := by
  have h1 := h.1
  have h2 := h.2.1
  unfold IsWord
  rw [len_mk, cps_mk, sqW_eq h i hi]
  refine ⟨by simp; omega, by simp; omega, fun c hc => ?_⟩
  rcases List.mem_append.mp hc with hc | hc
  · exact abc_in (h.2.2 c (List.mem_of_mem_drop hc))
  · have := List.eq_of_mem_replicate hc; omega
theorem sqW_free {w : List Nat} (h : DW w) {ws : List Str} (hl : ws.length ≤ 8) (hall : ∀ j, j < 9 → mkS (sqW w j) ∈ ws) : False := by
  have h1 : ((List.range 9).map fun j => mkS (sqW w j)).Nodup := by
    rw [List.nodup_iff_pairwise_ne, List.pairwise_map]
    refine List.Pairwise.imp_of_mem (fun {a b} ha hb hne e => hne ?_) (List.nodup_range (n := 9))
    have ha := List.mem_range.mp ha
    have hb := List.mem_range.mp hb
    have e := mkS_inj e
    have e1 := sqW_cnt h (i := a) (by omega)
    have e2 := sqW_cnt h (i := b) (by omega)
    rw [e, e2] at e1
    exact e1.symm
  have := nodup_le _ ws h1 fun x hx => by
    obtain ⟨j, hj, rfl⟩ := List.mem_map.mp hx
    exact hall j (List.mem_range.mp hj)
  simp at this
  omega
theorem all2_mem {α β : Type} {S : β → Prop} {xs : List α} {ys : List β} (h : All2 (fun _ y => S y) xs ys) : ∀ y ∈ ys, S y := All2.mem (R := fun _ y => S y) (fun _ _ h => h) h
theorem bind_eq {α β : Type} {p q : Pg α} {f : α → Pg β} (h : p = q) : p.bind f = q.bind f := by rw [h]
theorem le_of_sz {n : Nat} (h : n ≤ 16777216) : n ≤ sizeLine := h
end DL
namespace DL
open PySem PySem.Spec L2
section
variable {α β γ σ : Type}
theorem foldP_flat {body : α → List β → Pg (List β)} (f : α → List β) : ∀ {xs : List α} {s0 : List β}, (∀ x ∈ xs, ∀ s, body x s = Pg.ext s (f x) .ret) → s0.length + (xs.flatMap f).length ≤ 16777216 → Pg.foldP body xs s0 = .ret (s0 ++ xs.flatMap f)
  | [], s0, _, _ => by simp [Pg.foldP]
  | x :: xs, s0, h, hl => by
    simp only [List.flatMap_cons, List.length_append] at hl
    rw [Pg.foldP, h x List.mem_cons_self, Pg.ext, Pg.req_t (le_of_sz (by omega)), Pg.bind_ret, foldP_flat f (fun y hy => h y (List.mem_cons_of_mem _ hy)) (by rw [List.length_append]; omega)]
    simp
theorem foldP_ext (f : α → List β) {xs : List α} (hl : (xs.flatMap f).length ≤ 16777216) : Pg.foldP (fun x s => Pg.ext s (f x) fun s' => .ret s') xs [] = .ret (xs.flatMap f) := by
  rw [foldP_flat f (fun _ _ _ => rfl) (by simpa using hl)]; simp
theorem flat_len (f : α → List β) (n : Nat) : ∀ {xs : List α}, (∀ x ∈ xs, (f x).length ≤ n) → (xs.flatMap f).length ≤ xs.length * n
  | [], _ => by simp
  | x :: xs, h => by
    have a := h x List.mem_cons_self
    have b := flat_len f n (xs := xs) fun y hy => h y (List.mem_cons_of_mem _ hy)
    simp only [List.flatMap_cons, List.length_append, List.length_cons, Nat.succ_mul]
    omega
end
/-! ascending texts -/
theorem mem_srtS {x : Str} {l : List Str} : x ∈ St.srtS l ↔ x ∈ l := by
  unfold St.srtS
  rw [(List.mergeSort_perm _ _).mem_iff, St.mem_dedup]
theorem nodup_srtS (l : List Str) : (St.srtS l).Nodup := (List.mergeSort_perm _ _).nodup_iff.mpr (St.nodup_dedup l)
theorem dedup_len : ∀ l : List Str, (St.dedupS l).length ≤ l.length
  | [] => Nat.le_refl _
  | x :: l => by
    have := dedup_len l
    unfold St.dedupS
    split <;> simp <;> omega
theorem len_srtS (l : List Str) : (St.srtS l).length ≤ l.length := by
  unfold St.srtS
  rw [(List.mergeSort_perm _ _).length_eq]; exact dedup_len l
theorem sset_t {l : List Str} (h : l.length ≤ 4000) : Pg.sset l = .ret (St.srtS l) := Pg.req_t (by omega)
/-! terms -/
def capS : List Nat := [65, 66, 67, 68, 69, 70, 71, 72, 73, 74, 75, 76, 77, 78, 79, 80, 81, 82, 83, 84, 85, 86, 87, 88, 89, 90]
/-- a letter from A to Z -/
def isVarS (t : Str) : Bool := decide (t.length = 1) && decide (t.cps.getD 0 0 ∈ capS)
theorem caps : (Str.ofString "ABCDEFGHIJKLMNOPQRSTUVWXYZ").cps.toList = capS := by decide +kernel
theorem isVarS_iff {t : Str} : isVarS t = true ↔ ∃ c, 65 ≤ c ∧ c ≤ 90 ∧ t = mkS [c] := by
  have hm : ∀ c, c ∈ capS ↔ 65 ≤ c ∧ c ≤ 90 := fun c => by
    unfold capS
    simp only [List.mem_cons, List.not_mem_nil, or_false]
    omega
  unfold isVarS
  simp only [Bool.and_eq_true, decide_eq_true_eq, hm]
  constructor
  · rintro ⟨h1, h2⟩
    have e : cpsS t = [t.cps.getD 0 0] := by
      have hl := len_cps t
      rw [h1] at hl
      match q : cpsS t, hl with
      | [c], _ =>
        have : t.cps.getD 0 0 = c := by
          have e2 : t.cps = #[c] := by
            apply Array.ext'
            exact q
          rw [e2]; rfl
        rw [this]
    exact ⟨_, h2.1, h2.2, by rw [← e, mk_cps]⟩
  · rintro ⟨c, h1, h2, rfl⟩
    exact ⟨rfl, h1, h2⟩
def varsOf (as : List (List Str)) : List Str := St.srtS (as.flatMap fun a => (a.drop 1).filter isVarS)
theorem mem_varsOf {as : List (List Str)} {v : Str} : v ∈ varsOf as ↔ isVarS v = true ∧ ∃ a ∈ as, v ∈ a.drop 1 := by
  unfold varsOf
  rw [mem_srtS, List.mem_flatMap]
  constructor
  · rintro ⟨a, h1, h2⟩
    obtain ⟨h3, h4⟩ := List.mem_filter.mp h2
    exact ⟨h4, a, h1, h3⟩
  · rintro ⟨h1, a, h2, h3⟩
    exact ⟨a, h2, List.mem_filter.mpr ⟨h3, h1⟩⟩
/-- an atom drawn: a name of the kinds, terms -/
def DAtom (kinds : List (Str × Int)) (terms : List Str) (a : List Str) : Prop := ∃ kd ∈ kinds, ∃ ts : List Str, a = kd.1 :: ts ∧ (ts.length : Int) = kd.2 ∧ ∀ t ∈ ts, t ∈ terms
/-- rows of texts of few signs -/
def Rows (n m k : Nat) (as : List (List Str)) : Prop := as.length ≤ n ∧ ∀ a ∈ as, a.length ≤ m ∧ ∀ t ∈ a, t.length ≤ k
/-- how many terms atoms have -/
def widthOf (as : List (List Str)) (r : Str) : Int := maxd ((as.filter fun a => decide (a.head? = some r)).map fun a => ((a.length : Int) - 1)) 0
theorem maxd_all {l : List Int} {w i : Int} (h : ∀ x ∈ l, x = w) (hn : l ≠ []) : maxd l i = w := by
  cases l with
  | nil => exact absurd rfl hn
  | cons a l =>
    show l.foldl max a = w
    have ha := h a List.mem_cons_self
    subst ha
    have : ∀ l : List Int, (∀ x ∈ l, x = a) → l.foldl max a = a := by
      intro l
      induction l with
      | nil => exact fun _ => rfl
      | cons b l ih =>
        intro hl
        rw [List.foldl_cons, hl b List.mem_cons_self, Int.max_self]
        exact ih fun x hx => hl x (List.mem_cons_of_mem _ hx)
    exact this l fun x hx => h x (List.mem_cons_of_mem _ hx)
theorem widthOf_all {as : List (List Str)} {r : Str} {w : Int} (h : ∀ a ∈ as, a.head? = some r → (a.length : Int) - 1 = w) (hn : ∃ a ∈ as, a.head? = some r) : widthOf as r = w := by
  unfold widthOf
  refine maxd_all (fun x hx => ?_) ?_
  · obtain ⟨a, ha, rfl⟩ := List.mem_map.mp hx
    obtain ⟨h1, h2⟩ := List.mem_filter.mp ha
    exact h a h1 (of_decide_eq_true h2)
  · obtain ⟨a, h1, h2⟩ := hn
    intro e
    have : ((a.length : Int) - 1) ∈ (as.filter fun a => decide (a.head? = some r)).map fun a => ((a.length : Int) - 1) := List.mem_map_of_mem (f := fun a : List Str => ((a.length : Int) - 1)) (List.mem_filter.mpr ⟨h1, decide_eq_true h2⟩)
    rw [e] at this
    cases this
abbrev Rule' := List (List Str) × List (List Str)
abbrev Key' := Str × List Int
abbrev Book' := List Rule' × List Key'
def kfB (b : Book') (key : Key') : Bool :=
  decide ((key.2.length : Int) = widthOf (b.1.flatMap (·.2)) key.1) || ((b.2.filter fun k => decide (k.1 = key.1)).any fun k => k.2.all fun x => decide (x ∈ key.2))
end DL

/-! stores: values, unknowns, facts, canonical lists -/
namespace DL
open PySem PySem.Spec L2
/-- an unknown: it begins with '?' -/
def isUnk (t : Str) : Bool := decide ((cpsS t).head? = some 63)
theorem atS_0 {t : Str} (h1 : 1 ≤ t.length) (h2 : t.length ≤ 1000) : (Pg.atS t (0 : Int)).bind (fun z => (.ret (decide (z = Str.ofString "?")) : Pg Bool)) = .ret (isUnk t) := by
  unfold Pg.atS
  rw [Pg.req_t (le_sz h2)]
  unfold isUnk
  have hl := len_cps t
  have hc : t.cps.toList = cpsS t := rfl
  rw [hc]
  cases q : cpsS t with
  | nil => rw [q] at hl; simp at hl; omega
  | cons c l =>
    rw [at_0, Pg.bind_ret, Pg.bind_ret]
    have e : (Str.ofString "?") = mkS [63] := by decide +kernel
    rw [e]
    congr 1
    rw [decide_eq_decide]
    show (mkS [c] = mkS [63]) ↔ _
    constructor
    · intro h; have := mkS_inj h; simp at this; simp [this]
    · intro h; simp at h; rw [h]
/-- sorted texts without double ones -/
def Can (l : List Str) : Prop := l.Nodup ∧ l.Pairwise fun a b => St.leS a b = true
theorem can_srtS (l : List Str) : Can (St.srtS l) := ⟨nodup_srtS l, List.pairwise_mergeSort St.leS_trans St.leS_total _⟩
theorem Can.eq {l m : List Str} (h : Can l) (k : Can m) (e : ∀ x, x ∈ l ↔ x ∈ m) : l = m :=
  List.Perm.eq_of_pairwise (le := fun a b => St.leS a b = true) (fun a b _ _ h1 h2 => St.leS_anti h1 h2) h.2 k.2 ((List.perm_ext_iff_of_nodup h.1 k.1).mpr e)
theorem can_one (x : Str) : Can [x] := ⟨by simp, by simp⟩
theorem can_nil : Can [] := ⟨by simp, by simp⟩
theorem srtS_eq {l m : List Str} (e : ∀ x, x ∈ l ↔ x ∈ m) : St.srtS l = St.srtS m := (can_srtS l).eq (can_srtS m) fun x => by rw [mem_srtS, mem_srtS, e]
theorem srtS_can {l : List Str} (h : Can l) : St.srtS l = l := (can_srtS l).eq h fun x => mem_srtS
/-- sorted rows without double ones -/
def CanR (l : List (List Str)) : Prop := l.Nodup ∧ l.Pairwise fun a b => Rs.leR a b = true
theorem mem_srtR {x : List Str} {l : List (List Str)} : x ∈ Rs.srtR l ↔ x ∈ l := by
  unfold Rs.srtR
  rw [(List.mergeSort_perm _ _).mem_iff, Rs.mem_dedupR]
theorem can_srtR (l : List (List Str)) : CanR (Rs.srtR l) := ⟨(List.mergeSort_perm _ _).nodup_iff.mpr (Rs.nodup_dedupR l), List.pairwise_mergeSort Rs.leR_trans Rs.leR_total _⟩
theorem CanR.eq {l m : List (List Str)} (h : CanR l) (k : CanR m) (e : ∀ x, x ∈ l ↔ x ∈ m) : l = m :=
  List.Perm.eq_of_pairwise (le := fun a b => Rs.leR a b = true) (fun a b _ _ h1 h2 => Rs.leR_anti h1 h2) h.2 k.2 ((List.perm_ext_iff_of_nodup h.1 k.1).mpr e)
theorem srtR_eq {l m : List (List Str)} (e : ∀ x, x ∈ l ↔ x ∈ m) : Rs.srtR l = Rs.srtR m := (can_srtR l).eq (can_srtR m) fun x => by rw [mem_srtR, mem_srtR, e]
theorem srtR_can {l : List (List Str)} (h : CanR l) : Rs.srtR l = l := (can_srtR l).eq h fun x => mem_srtR
theorem dedupR_len : ∀ l : List (List Str), (Rs.dedupR l).length ≤ l.length
  | [] => Nat.le_refl _
  | x :: l => by
    have := dedupR_len l
    unfold Rs.dedupR
    split <;> simp <;> omega
theorem len_srtR (l : List (List Str)) : (Rs.srtR l).length ≤ l.length := by
  unfold Rs.srtR
  rw [(List.mergeSort_perm _ _).length_eq]; exact dedupR_len l
theorem dedupR_nil : ∀ {l : List (List Str)}, (∀ r ∈ l, r = []) → (Rs.dedupR l).length ≤ 1
  | [], _ => Nat.zero_le _
  | x :: l, h => by
    have hx := h x List.mem_cons_self
    subst hx
    have ih := dedupR_nil (l := l) fun r hr => h r (List.mem_cons_of_mem _ hr)
    unfold Rs.dedupR
    split
    · exact ih
    · rename_i hn
      cases l with
      | nil => simp [Rs.dedupR]
      | cons y l =>
        have hy := h y (List.mem_cons_of_mem _ List.mem_cons_self)
        subst hy
        simp at hn
theorem ssetR_u {l : List (List Str)} (h : l.length ≤ 76 ∨ (Rs.dedupR l).length ≤ 76) (hn : (∀ r ∈ l, r ≠ []) ∨ ∀ r ∈ l, r = []) : Pg.ssetR l = .ret (Rs.srtR l) := Pg.req_t ⟨h.elim (Nat.le_trans (dedupR_len l)) id, by
  rw [Bool.or_eq_true]
  rcases hn with hn | hn
  · refine .inl (List.all_eq_true.mpr fun r hr => ?_)
    have := hn r hr
    cases r with
    | nil => exact absurd rfl this
    | cons _ _ => rfl
  · exact .inr (decide_eq_true (dedupR_nil hn))⟩
theorem ssetR_t {l : List (List Str)} (h : l.length ≤ 76) (hn : ∀ r ∈ l, r ≠ []) : Pg.ssetR l = .ret (Rs.srtR l) := ssetR_u (.inl h) (.inl hn)
/-- sorted(list) of rows -/
theorem okL_strs : ∀ r : List Str, okL (r.map D.str) = true
  | [] => rfl
  | x :: r => by simp [okL, okD, okL_strs r]
theorem pyL_strs (r : List Str) : pyL (r.map D.str) = r.map PyData.str := by rw [pyL_map, List.map_map]; rfl
theorem dep_strs : ∀ r : List Str, PyData.depthAll (r.map PyData.str) = 0
  | [] => rfl
  | x :: r => by show max 0 _ = 0; rw [dep_strs r]; rfl
theorem py_row (r : List Str) : py (eT D.str r) = Rs.encR r := by
  show PyData.tuple (pyL (r.map D.str)) = PyData.tuple _
  rw [pyL_strs]
theorem cmp_row (r : List Str) : cmpOk (eT D.str r) = true := by
  unfold cmpOk
  rw [Bool.and_eq_true]
  refine ⟨okL_strs r, decide_eq_true ?_⟩
  rw [py_row]
  show PyData.depthAll _ + 1 ≤ 60
  rw [dep_strs]; decide
theorem srtOk_rows {l : List (List Str)} (hn : ∀ r ∈ l, r ≠ []) : srtOk (l.map (eT D.str)) = true := by
  unfold srtOk
  simp only [Bool.and_eq_true, Bool.or_eq_true]
  refine ⟨⟨List.all_eq_true.mpr fun d hd => ?_, List.all_eq_true.mpr fun d hd => List.all_eq_true.mpr fun e he => ?_⟩, .inl (.inl (List.all_eq_true.mpr fun d hd => ?_))⟩
  · obtain ⟨r, hr, rfl⟩ := List.mem_map.mp hd; exact cmp_row r
  · obtain ⟨r, hr, rfl⟩ := List.mem_map.mp hd
    obtain ⟨q, hq, rfl⟩ := List.mem_map.mp he
    rw [py_row, py_row]
    exact Rs.alike_row r q
  · obtain ⟨r, hr, rfl⟩ := List.mem_map.mp hd
    have := hn r hr
    cases r with
    | nil => exact absurd rfl this
    | cons _ _ => rfl
theorem le_row (a b : List Str) : leDT (eT D.str a) (eT D.str b) = Rs.leR a b := by
  have := congrFun (congrFun (Rs.le_rows (β := List Str) fun r => r) a) b
  show PySem.W.dataLe false py _ _ = _
  rw [← this]
  show (!PySem.W.dataLt (py _) (py _)) = (!PySem.W.dataLt _ _)
  rw [py_row, py_row]
theorem sortR_t {l : List (List Str)} (hn : ∀ r ∈ l, r ≠ []) : Pg.sortE (eT D.str) l = .ret (l.mergeSort Rs.leR) := by
  unfold Pg.sortE
  rw [Pg.req_t (srtOk_rows hn)]
  congr 2
  funext a b
  exact le_row a b
theorem srtOk_strs (l : List Str) : srtOk (l.map D.str) = true := by
  unfold srtOk
  simp only [Bool.and_eq_true, Bool.or_eq_true]
  refine ⟨⟨List.all_eq_true.mpr fun d hd => ?_, List.all_eq_true.mpr fun d hd => List.all_eq_true.mpr fun e he => ?_⟩, .inl (.inr (List.all_eq_true.mpr fun d hd => ?_))⟩
  · obtain ⟨r, hr, rfl⟩ := List.mem_map.mp hd; rfl
  · obtain ⟨r, hr, rfl⟩ := List.mem_map.mp hd
    obtain ⟨q, hq, rfl⟩ := List.mem_map.mp he
    simp [py, PySem.W.alike]
  · obtain ⟨r, hr, rfl⟩ := List.mem_map.mp hd; rfl
theorem sortS_t (l : List Str) : Pg.sortE D.str l = .ret (l.mergeSort fun a b => leDT (.str a) (.str b)) := Pg.req_t (srtOk_strs l)
/-- values: texts of 1 to 8 signs -/
def Vl (t : Str) : Prop := PyData.strOk t = true ∧ 1 ≤ t.length ∧ t.length ≤ 8
theorem IsWord.vl {w : Str} (h : IsWord w) : Vl w := ⟨h.ok, h.1, h.2.1⟩
theorem IsWord.unk {w : Str} (h : IsWord w) : isUnk w = false := by
  unfold isUnk
  rw [decide_eq_false]
  intro e
  cases q : cpsS w with
  | nil => rw [q] at e; cases e
  | cons c l =>
    rw [q] at e
    have := h.2.2 c (by rw [q]; simp)
    simp at e
    omega
/-- the unknowns of a fact, as they come -/
def uOf (f : List Str) : List Str := (f.drop 1).filter isUnk
theorem uOf_unk {f : List Str} {x : Str} (h : x ∈ uOf f) : isUnk x = true := (List.mem_filter.mp h).2
/-- .. of facts, sorted -/
def unkOf (as : List (List Str)) : List Str := St.srtS (as.flatMap uOf)
theorem mem_unkOf {as : List (List Str)} {v : Str} : v ∈ unkOf as ↔ ∃ a ∈ as, v ∈ uOf a := by
  unfold unkOf
  rw [mem_srtS, List.mem_flatMap]
/-- rows that are facts of few short values -/
def Fs (n m : Nat) (as : List (List Str)) : Prop := as.length ≤ n ∧ ∀ a ∈ as, a ≠ [] ∧ a.length ≤ m ∧ ∀ t ∈ a, Vl t
theorem Fs.uLen {n m : Nat} {as : List (List Str)} (h : Fs n m as) : (as.flatMap uOf).length ≤ n * m := by
  have := flat_len uOf m (xs := as) fun a ha => by
    have h1 := List.length_filter_le isUnk (a.drop 1)
    have h2 := (h.2 a ha).2.1
    unfold uOf
    simp at h1 ⊢
    omega
  exact Nat.le_trans this (Nat.mul_le_mul_right m h.1)
theorem uLen1 {m : Nat} {a : List Str} (h : a.length ≤ m) : (uOf a).length ≤ m := by
  have h1 := List.length_filter_le isUnk (a.drop 1)
  unfold uOf
  simp at h1 ⊢
  omega
/-- the loop that gathers the unknowns -/
theorem fold_unk {n m : Nat} {as : List (List Str)} (h : Fs n m as) (hm : m ≤ 40) (hn : n * m ≤ 4000) : Pg.foldP (fun fact (found : List Str) =>
    (Pg.lcB (fun value => (Pg.atS value (0 : Int)).bind fun z => .ret (decide (z = Str.ofString "?"))) (fun value => Pg.ret value) (cutL fact (some (1 : Int)) none)).bind fun z1 => Pg.ext found z1 fun found1 => .ret found1) as [] = .ret (as.flatMap uOf) := by
  refine (foldP_flat uOf (fun a ha s => ?_) (by have := h.uLen; simp only [List.length_nil]; omega)).trans (by rw [List.nil_append])
  obtain ⟨h0, h1, h2⟩ := h.2 a ha
  rw [cut_1, lcB_e isUnk (fun x => x) (fun t ht => ?_) (fun _ _ _ => rfl) (by rw [List.length_drop]; omega), List.map_id', Pg.bind_ret]
  · rfl
  · have ht2 := h2 t (List.mem_of_mem_drop ht)
    exact atS_0 ht2.2.1 (by have := ht2.2.2; omega)
/-- a fact drawn -/
def DFact (kinds : List (Str × Int)) (values : List Str) (a : List Str) : Prop := ∃ kd ∈ kinds, ∃ ts : List Str, a = kd.1 :: ts ∧ (ts.length : Int) = kd.2 ∧ ∀ t ∈ ts, t ∈ values
/-- the eight unknowns that may be drawn -/
def unks : List Str := [Str.ofString "?1", Str.ofString "?2", Str.ofString "?3", Str.ofString "?9", Str.ofString "?10", Str.ofString "?21", Str.ofString "?500", Str.ofString "?99999"]
theorem unks_nodup : unks.Nodup := by decide +kernel
theorem unks_vl {t : Str} (h : t ∈ unks) : Vl t ∧ isUnk t = true := by
  have : ∀ t ∈ unks, 1 ≤ t.length ∧ t.length ≤ 8 ∧ isUnk t = true := by decide +kernel
  obtain ⟨h1, h2, h3⟩ := this t h
  have ok : PyData.strOk t = true := by
    simp only [unks, List.mem_cons, List.not_mem_nil, or_false] at h
    rcases h with rfl | rfl | rfl | rfl | rfl | rfl | rfl | rfl <;> exact ok_of _
  exact ⟨⟨ok, h1, h2⟩, h3⟩
end DL

/-! data of several kinds shown; dicts -/
namespace DL
open PySem PySem.Spec L2
/-- may be shown: so deep, so long -/
structure Sh (d : D) (k w : Nat) : Prop where
  ok : okS d = true
  dep : (py d).depth ≤ k
  le : rl d ≤ w
section
variable {α : Type} {e : α → D} {P : α → Prop} {w k : Nat} {d : D}
theorem Wd.s (h : Wd e P w) (q : EqE e k) {a : α} (ha : P a) : Sh (e a) k w := ⟨h.ok a ha, q.dep a, h.le a ha⟩
theorem Sh.sh (h : Sh d k w) (hk : k ≤ 60) (hw : w ≤ 16777216) : shOk d = true := shOk_of h.ok (Nat.le_trans h.dep hk) (Nat.le_trans h.le (by rw [sz]; exact hw))
theorem Sh.mono {k' w' : Nat} (h : Sh d k w) (hk : k ≤ k') (hw : w ≤ w') : Sh d k' w' := ⟨h.ok, Nat.le_trans h.dep hk, Nat.le_trans h.le hw⟩
theorem depL : ∀ {l : List D}, (∀ d ∈ l, (py d).depth ≤ k) → PyData.depthAll (pyL l) ≤ k
  | [], _ => Nat.zero_le _
  | d :: l, h => by
    have h1 := h d List.mem_cons_self
    have h2 := depL (l := l) fun x hx => h x (List.mem_cons_of_mem _ hx)
    show max (py d).depth (PyData.depthAll (pyL l)) ≤ k
    omega
theorem shL {l : List D} (h : ∀ d ∈ l, Sh d k w) : okSL l = true ∧ rlL l ≤ l.length * (w + 2) := by
  have := Wd.rows (e := fun d : D => d) (P := fun d => Sh d k w) (w := w) ⟨fun d h => h.ok, fun d h => h.le⟩ l h
  rwa [List.map_id'] at this
theorem Sh.lst {l : List D} (n : Nat) (hn : l.length ≤ n) (h : ∀ d ∈ l, Sh d k w) : Sh (.lst l) (k + 1) (n * (w + 2) + 3) := by
  obtain ⟨h1, h2⟩ := shL h
  refine ⟨h1, ?_, ?_⟩
  · show PyData.depthAll _ + 1 ≤ _
    have := depL fun d hd => (h d hd).dep
    omega
  · show rlL l + 3 ≤ _
    have := Nat.mul_le_mul_right (w + 2) hn
    omega
theorem Sh.tup {l : List D} (n : Nat) (hn : l.length ≤ n) (h : ∀ d ∈ l, Sh d k w) : Sh (.tup l) (k + 1) (n * (w + 2) + 3) := by
  obtain ⟨h1, h2⟩ := shL h
  refine ⟨h1, ?_, ?_⟩
  · show PyData.depthAll _ + 1 ≤ _
    have := depL fun d hd => (h d hd).dep
    omega
  · show rlL l + 3 ≤ _
    have := Nat.mul_le_mul_right (w + 2) hn
    omega
end
/-! dicts -/
section
variable {α : Type} {l : List (Str × α)} {k x : Str} {v : α}
theorem look_mem : ∀ {l : List (Str × α)}, dlook l k = some v → (k, v) ∈ l
  | [], h => by cases h
  | p :: l, h => by
    unfold dlook at h
    split at h
    · rename_i e
      cases h
      rw [← e]
      exact List.mem_cons_self
    · exact List.mem_cons_of_mem _ (look_mem h)
theorem put_mem {p : Str × α} (h : p ∈ dput l k v) : p ∈ l ∨ p = (k, v) := by
  unfold dput at h
  split at h
  · obtain ⟨q, hq, rfl⟩ := List.mem_map.mp h
    split
    · rename_i e; right; rw [e]
    · exact .inl hq
  · rcases List.mem_append.mp h with h | h
    · exact .inl h
    · exact .inr (List.mem_singleton.mp h)
theorem merge_mem {l : List (Str × α)} {p : Str × α} (h : p ∈ dmerge l) : p ∈ l := by
  have gen : ∀ (l acc : List (Str × α)), p ∈ l.foldl (fun acc p => dput acc p.1 p.2) acc → p ∈ acc ∨ p ∈ l := by
    intro l
    induction l with
    | nil => exact fun acc h => .inl h
    | cons q l ih =>
      intro acc h
      rcases ih _ h with h | h
      · rcases put_mem h with h | h
        · exact .inl h
        · exact .inr (by rw [h]; exact List.mem_cons_self)
      · exact .inr (List.mem_cons_of_mem _ h)
  rcases gen l [] h with h | h
  · cases h
  · exact h
theorem get_mem {z : α} : dget l k z = z ∨ (k, dget l k z) ∈ l := by
  unfold dget
  cases h : dlook l k with
  | none => exact .inl rfl
  | some v => exact .inr (look_mem h)
end
/-- names put into a fact -/
def chF (names : List (Str × Str)) (f : List Str) : List Str := f.take 1 ++ (f.drop 1).map fun v => dget names v v
theorem chF_nil (f : List Str) : chF [] f = f := by
  unfold chF
  have : (fun v : Str => dget ([] : List (Str × Str)) v v) = fun v => v := rfl
  rw [this, List.map_id', List.take_append_drop]
theorem chF_ne {names : List (Str × Str)} {f : List Str} (h : f ≠ []) : chF names f ≠ [] := by
  cases f with
  | nil => exact absurd rfl h
  | cons a l => simp [chF]
theorem chF_len (names : List (Str × Str)) (f : List Str) : (chF names f).length = f.length := by
  unfold chF
  rw [List.length_append, List.length_map, List.length_take, List.length_drop]
  omega
/-- .. into facts -/
theorem Fs.put {n m : Nat} {as : List (List Str)} {names : List (Str × Str)} (h : Fs n m as) (hv : ∀ p ∈ names, Vl p.2) : Fs n m (Rs.srtR (as.map (chF names))) := by
  refine ⟨Nat.le_trans (len_srtR _) (by rw [List.length_map]; exact h.1), fun a ha => ?_⟩
  obtain ⟨f, hf, rfl⟩ := List.mem_map.mp (mem_srtR.mp ha)
  obtain ⟨h1, h2, h3⟩ := h.2 f hf
  refine ⟨chF_ne h1, by rw [chF_len]; exact h2, fun t ht => ?_⟩
  rcases List.mem_append.mp ht with ht | ht
  · exact h3 t (List.mem_of_mem_take ht)
  · obtain ⟨v, hvm, rfl⟩ := List.mem_map.mp ht
    rcases get_mem (l := names) (k := v) (z := v) with e | e
    · rw [e]; exact h3 v (List.mem_of_mem_drop hvm)
    · exact hv _ e
def wdFact := Wd.tup 9 (Wd.str 8)
def wdStore := Wd.tup 80 wdFact
def eqStore := EqE.tup (EqE.tup EqE.str)
theorem Fs.s {n m : Nat} {as : List (List Str)} (h : Fs n m as) (hn : n ≤ 80) (hm : m ≤ 9) : Sh (eT (eT D.str) as) 2 (80 * (9 * (10 * 8 + 2 + 2) + 3 + 2) + 3) := wdStore.s eqStore ⟨Nat.le_trans h.1 hn, fun a ha => ⟨Nat.le_trans (h.2 a ha).2.1 hm, fun t ht => ⟨((h.2 a ha).2.2 t ht).1, ((h.2 a ha).2.2 t ht).2.2⟩⟩⟩
theorem Fs.sh {n m : Nat} {as : List (List Str)} (h : Fs n m as) (hn : n ≤ 80) (hm : m ≤ 9) : shOk (eT (eT D.str) as) = true := (h.s hn hm).sh (by decide) (by decide)
def wdPairs := Wd.tup 80 (Wd.pair (Wd.str 8) (Wd.str 8))
def eqPairs := EqE.tup (EqE.pair EqE.str EqE.str)
def wdRow := Wd.tup 80 (Wd.str 8)
theorem row_sh {l : List Str} (hl : l.length ≤ 80) (h : ∀ t ∈ l, Vl t) : shOk (eT D.str l) = true := wdRow.sh (EqE.tup EqE.str) (by decide) (by decide) ⟨hl, fun t ht => ⟨(h t ht).1, (h t ht).2.2⟩⟩
end DL

/-! fitting an atom to a fact -/
namespace DL
open PySem PySem.Spec L2
theorem up_asc : (List.range 123).all (fun c => Txt.isupper (mkS [c]) == decide (c ∈ capS)) = true := by decide +kernel
/-- few signs, all below 123 -/
def Asc (t : Str) : Prop := 1 ≤ t.length ∧ t.length ≤ 8 ∧ ∀ c ∈ cpsS t, c < 123
theorem IsWord.asc {t : Str} (h : IsWord t) : Asc t := ⟨h.1, h.2.1, fun c hc => by have := h.2.2 c hc; omega⟩
theorem asc_var {t : Str} (h : isVarS t = true) : Asc t := by
  obtain ⟨c, h1, h2, rfl⟩ := isVarS_iff.mp h
  exact ⟨by simp [len_mk], by simp [len_mk], fun x hx => by rw [cps_mk] at hx; simp at hx; omega⟩
theorem asc_unks {t : Str} (h : t ∈ unks) : Asc t := by
  have : ∀ t ∈ unks, (1 ≤ t.length ∧ t.length ≤ 8) ∧ ∀ c ∈ cpsS t, c < 123 := by decide +kernel
  obtain ⟨h1, h2⟩ := this t h
  exact ⟨h1.1, h1.2, h2⟩
/-- what may be fitted -/
def freeS (t : Str) : Bool := match (cpsS t).head? with
  | some c => decide (c = 63) || decide (c ∈ capS)
  | none => false
theorem Asc.head {t : Str} (h : Asc t) : ∃ c l, cpsS t = c :: l ∧ c < 123 := by
  have hl := len_cps t
  have h1 := h.1
  cases q : cpsS t with
  | nil => rw [q] at hl; simp at hl; omega
  | cons c l => exact ⟨c, l, rfl, h.2.2 c (by rw [q]; simp)⟩
theorem atS_c {t : Str} (h : Asc t) : ∃ c l, cpsS t = c :: l ∧ c < 123 ∧ Pg.atS t (0 : Int) = .ret (mkS [c]) := by
  obtain ⟨c, l, h1, h2⟩ := h.head
  refine ⟨c, l, h1, h2, ?_⟩
  have hc : t.cps.toList = cpsS t := rfl
  unfold Pg.atS
  rw [Pg.req_t (le_sz (by have := h.2.1; omega)), hc, h1, at_0, Pg.bind_ret]
  rfl
theorem q63 : (Str.ofString "?") = mkS [63] := by decide +kernel
theorem eq63 (c : Nat) : decide (mkS [c] = mkS [63]) = decide (c = 63) := by
  rw [decide_eq_decide]
  constructor
  · intro h; have := mkS_inj h; simpa using this
  · rintro rfl; rfl
theorem caps' : (Str.ofString "ABCDEFGHIJKLMNOPQRSTUVWXYZ").cps.toList = capS := caps
/-! dicts with unlike keys -/
def KN {α : Type} (l : List (Str × α)) : Prop := (l.map (·.1)).Nodup
section
variable {α : Type} {l : List (Str × α)} {k x : Str} {v g : α}
theorem has_iff : dhas l k = true ↔ k ∈ l.map (·.1) := by
  unfold dhas
  rw [List.any_eq_true, List.mem_map]
  constructor
  · rintro ⟨p, h1, h2⟩; exact ⟨p, h1, of_decide_eq_true h2⟩
  · rintro ⟨p, h1, h2⟩; exact ⟨p, h1, decide_eq_true h2⟩
theorem look_of : ∀ {l : List (Str × α)}, KN l → (k, v) ∈ l → dlook l k = some v
  | [], _, h => by cases h
  | p :: l, n, h => by
    have n := List.nodup_cons.mp (show (p.1 :: l.map (·.1)).Nodup from n)
    unfold dlook
    rcases List.mem_cons.mp h with rfl | h
    · rw [if_pos rfl]
    · rw [if_neg, look_of n.2 h]
      intro e
      exact n.1 (List.mem_map.mpr ⟨(k, v), h, e.symm⟩)
theorem look_some (h : k ∈ l.map (·.1)) : ∃ v, dlook l k = some v := by
  induction l with
  | nil => cases h
  | cons p l ih =>
    unfold dlook
    by_cases e : p.1 = k
    · rw [if_pos e]; exact ⟨_, rfl⟩
    · rw [if_neg e]
      refine ih ?_
      rcases List.mem_cons.mp h with z | z
      · exact absurd z.symm e
      · exact z
theorem put_old (n : KN l) (h : dhas l k = true) (e : dget l k g = g) : dput l k g = l := by
  obtain ⟨w, hw⟩ := look_some (has_iff.mp h)
  have : w = g := by unfold dget at e; rw [hw] at e; exact e
  subst this
  unfold dput
  rw [if_pos h]
  have : ∀ p ∈ l, (fun p : Str × α => if p.1 = k then (p.1, w) else p) p = id p := fun p hp => by
    dsimp only [id]
    split
    · rename_i e2
      have := look_of n (k := p.1) (v := p.2) hp
      rw [e2, hw] at this
      rw [Option.some.inj this]
    · rfl
  rw [List.map_congr_left this, List.map_id]
theorem set_put (n : KN l) (e : dget l k g = g) : dset l k g = dput l k g := by
  unfold dset
  by_cases h : dhas l k = true
  · rw [if_pos h, put_old n h e]
  · rw [if_neg h]
theorem set_kn (n : KN l) : KN (dset l k g) := by
  unfold dset dput
  by_cases h : dhas l k = true
  · rw [if_pos h]; exact n
  · rw [if_neg h, if_neg h]
    unfold KN
    rw [List.map_append, List.nodup_append]
    exact ⟨n, by simp, fun a ha b hb => by
      rw [List.mem_singleton.mp hb]
      intro e
      have e : a = k := e
      subst e
      exact h (has_iff.mpr ha)⟩
theorem set_keys {y : Str} : y ∈ (dset l k g).map (·.1) ↔ y ∈ l.map (·.1) ∨ y = k := by
  unfold dset dput
  by_cases h : dhas l k = true
  · rw [if_pos h]
    exact ⟨.inl, fun q => q.elim id fun e => e ▸ has_iff.mp h⟩
  · rw [if_neg h, if_neg h]; simp
theorem set_len : (dset l k g).length ≤ l.length + 1 := by
  unfold dset dput
  by_cases h : dhas l k = true
  · rw [if_pos h]; omega
  · rw [if_neg h, if_neg h]; simp
theorem set_mem {p : Str × α} (h : p ∈ dset l k g) : p ∈ l ∨ p = (k, g) := by
  unfold dset at h
  split at h
  · exact .inl h
  · exact put_mem h
end
/-! the fit -/
abbrev Nm := List (Str × Str)
def stepF (own : Nm) (p : Str × Str) : Option Nm := if freeS p.1 = true then (if dget own p.1 p.2 = p.2 then some (dset own p.1 p.2) else none) else if p.1 = p.2 then some own else none
def fitL : Nm → List (Str × Str) → Option Nm
  | own, [] => some own
  | own, p :: ps => (stepF own p).bind fun o => fitL o ps
def fitF (a f : List Str) (own : Nm) : Option Nm := if a.length = f.length ∧ a.head? = f.head? then fitL own ((a.drop 1).zip (f.drop 1)) else none
def growF (a : List Str) (ways : List Nm) (store : List (List Str)) : List Nm := ways.flatMap fun own => store.filterMap fun f => fitF a f own
def fitsF (atoms : List (List Str)) (store : List (List Str)) (own : Nm) : List Nm := atoms.foldl (fun ways a => growF a ways store) [own]
/-- a way: few unlike names, values of a kind -/
structure Way (P : Str → Prop) (n : Nat) (own : Nm) : Prop where
  kn : KN own
  len : own.length ≤ n
  val : ∀ p ∈ own, P p.2
theorem Way.step {P : Str → Prop} {n : Nat} {own o : Nm} {p : Str × Str} (h : Way P n own) (hp : P p.2) (e : stepF own p = some o) : Way P (n + 1) o ∧ (∀ k ∈ own.map (·.1), k ∈ o.map (·.1)) ∧ (freeS p.1 = true → p.1 ∈ o.map (·.1)) := by
  unfold stepF at e
  split at e
  · split at e
    · cases e
      refine ⟨⟨set_kn h.kn, by have := set_len (l := own) (k := p.1) (g := p.2); have := h.len; omega, fun q hq => ?_⟩, fun k hk => set_keys.mpr (.inl hk), fun _ => set_keys.mpr (.inr rfl)⟩
      rcases set_mem hq with z | z
      · exact h.val q z
      · rw [z]; exact hp
    · cases e
  · rename_i hn
    split at e
    · cases e
      exact ⟨⟨h.kn, by have := h.len; omega, h.val⟩, fun _ hk => hk, fun q => absurd q hn⟩
    · cases e
theorem Way.fitL {P : Str → Prop} : ∀ {ps : List (Str × Str)} {n : Nat} {own o : Nm}, Way P n own → (∀ p ∈ ps, P p.2) → DL.fitL own ps = some o → Way P (n + ps.length) o ∧ (∀ k ∈ own.map (·.1), k ∈ o.map (·.1)) ∧ ∀ p ∈ ps, freeS p.1 = true → p.1 ∈ o.map (·.1)
  | [], n, own, o, h, _, e => by cases e; exact ⟨h, fun _ z => z, fun _ z => by cases z⟩
  | p :: ps, n, own, o, h, hp, e => by
    unfold DL.fitL at e
    cases q : stepF own p with
    | none => rw [q] at e; cases e
    | some o1 =>
      rw [q] at e
      obtain ⟨h1, h2, h3⟩ := h.step (hp p List.mem_cons_self) q
      obtain ⟨k1, k2, k3⟩ := Way.fitL h1 (fun x hx => hp x (List.mem_cons_of_mem _ hx)) e
      refine ⟨by rw [List.length_cons, show n + (ps.length + 1) = n + 1 + ps.length by omega]; exact k1, fun k hk => k2 k (h2 k hk), fun x hx hf => ?_⟩
      rcases List.mem_cons.mp hx with rfl | hx
      · exact k2 _ (h3 hf)
      · exact k3 x hx hf
theorem Way.fit {P : Str → Prop} {n : Nat} {own o : Nm} {a f : List Str} (h : Way P n own) (hp : ∀ v ∈ f.drop 1, P v) (e : fitF a f own = some o) : Way P (n + (a.length - 1)) o ∧ (∀ k ∈ own.map (·.1), k ∈ o.map (·.1)) ∧ ∀ t ∈ a.drop 1, freeS t = true → t ∈ o.map (·.1) := by
  unfold fitF at e
  split at e
  · rename_i hc
    obtain ⟨h1, h2, h3⟩ := Way.fitL h (fun p hp2 => hp _ (List.of_mem_zip hp2).2) e
    have hl := hc.1
    rw [List.length_zip, List.length_drop, List.length_drop, hl, Nat.min_self, ← hl] at h1
    refine ⟨h1, h2, fun t ht hf => ?_⟩
    obtain ⟨i, hi, rfl⟩ := List.mem_iff_getElem.mp ht
    have hi2 : i < (f.drop 1).length := by rw [List.length_drop] at hi ⊢; omega
    have hz : ((a.drop 1)[i], (f.drop 1)[i]) ∈ (a.drop 1).zip (f.drop 1) := by
      rw [List.mem_iff_getElem]
      exact ⟨i, by rw [List.length_zip]; omega, by simp⟩
    exact h3 _ hz hf
  · cases e
theorem growF_len (a : List Str) (ways : List Nm) (store : List (List Str)) : (growF a ways store).length ≤ ways.length * store.length := flat_len (fun own => store.filterMap fun f => fitF a f own) store.length fun own _ => List.length_filterMap_le _ _
theorem Way.grow {P : Str → Prop} {n : Nat} {a : List Str} {ways : List Nm} {store : List (List Str)} (h : ∀ own ∈ ways, Way P n own) (hp : ∀ f ∈ store, ∀ v ∈ f.drop 1, P v) : ∀ o ∈ growF a ways store, ∃ own ∈ ways, Way P (n + (a.length - 1)) o ∧ (∀ k ∈ own.map (·.1), k ∈ o.map (·.1)) ∧ ∀ t ∈ a.drop 1, freeS t = true → t ∈ o.map (·.1) := fun o ho => by
  obtain ⟨own, h1, h2⟩ := List.mem_flatMap.mp ho
  obtain ⟨f, h3, h4⟩ := List.mem_filterMap.mp h2
  exact ⟨own, h1, (h own h1).fit (hp f h3) h4⟩
/-- loops that may find no way on -/
theorem forP_opt {α σ : Type} {body : α → σ → Pg (Ct σ (Option σ))} {step : σ → α → Option σ} {out : σ → List α → Option σ} (o0 : ∀ s, out s [] = some s) (o1 : ∀ s x xs, out s (x :: xs) = (step s x).bind fun s' => out s' xs) (I : Nat → σ → Prop) : ∀ {xs : List α} {s : σ} {k : Nat}, I k s → (∀ x ∈ xs, ∀ j s, j < k + xs.length → I j s → body x s = .ret (match step s x with | some s' => .nx s' | none => .ex none) ∧ ∀ s', step s x = some s' → I (j + 1) s') →
    Pg.forP body xs s = .ret (match out s xs with | some s' => .nx s' | none => .ex none)
  | [], s, k, _, _ => by rw [o0]; rfl
  | x :: xs, s, k, h, hb => by
    obtain ⟨e, hi⟩ := hb x List.mem_cons_self k s (by simp) h
    rw [Pg.forP, e, Pg.bind_ret, o1]
    cases q : step s x with
    | none => rfl
    | some s' => exact forP_opt o0 o1 I (k := k + 1) (hi s' q) fun y hy j t hj ht => hb y (List.mem_cons_of_mem _ hy) j t (by simp; omega) ht
end DL

/-! strict orders of typed values -/
namespace DL
open PySem PySem.Spec L2
section
variable {α β : Type} [DecidableEq α] [DecidableEq β] {e : α → D} {e2 : β → D} {k k2 : Nat} {lt : α → α → Bool} {lt2 : β → β → Bool}
structure OE (e : α → D) (k : Nat) (lt : α → α → Bool) : Prop where
  E : EqE e k
  cpr : ∀ a b, cpr (py (e a)) (py (e b)) = true
  alk : ∀ a b, PySem.W.alike (py (e a)) (py (e b)) = true
  ltP : ∀ a b, ltP (py (e a)) (py (e b)) = lt a b
  leP : ∀ a b, leP (py (e a)) (py (e b)) = !lt b a
  dlt : ∀ a b, PySem.W.dataLt (py (e a)) (py (e b)) = lt a b
  irr : ∀ a, lt a a = false
  tr : ∀ a b c, lt a b = true → lt b c = true → lt a c = true
  tot : ∀ a b, lt a b = false → lt b a = false → a = b
theorem OE.eqv (h : OE e k lt) (a b : α) : PyData.eqv (py (e a)) (py (e b)) = decide (a = b) := eqB_dec h.E a b
def ltS (a b : Str) : Bool := decide (a.cps.toList < b.cps.toList)
theorem OE.str : OE D.str 0 ltS where
  E := EqE.str
  cpr := fun _ _ => rfl
  alk := fun _ _ => rfl
  ltP := fun _ _ => rfl
  leP := fun _ _ => rfl
  dlt := fun a b => PySem.W.dataLt_str a b
  irr := fun a => decide_eq_false (List.lt_irrefl _)
  tr := fun a b c h1 h2 => decide_eq_true (List.lt_trans (of_decide_eq_true h1) (of_decide_eq_true h2))
  tot := fun a b h1 h2 => cps_inj (List.le_antisymm (List.not_lt.mp (of_decide_eq_false h2)) (List.not_lt.mp (of_decide_eq_false h1)))
def ltI (a b : Int) : Bool := decide (a < b)
theorem OE.int : OE D.int 0 ltI where
  E := EqE.int
  cpr := fun _ _ => rfl
  alk := fun _ _ => rfl
  ltP := fun _ _ => rfl
  leP := fun a b => by
    show decide (a ≤ b) = !decide (b < a)
    by_cases h : b < a
    · rw [decide_eq_true h, decide_eq_false (by omega)]; rfl
    · rw [decide_eq_false h, decide_eq_true (by omega)]; rfl
  dlt := fun a b => PySem.W.dataLt_int a b
  irr := fun a => decide_eq_false (by omega)
  tr := fun a b c h1 h2 => decide_eq_true (by have := of_decide_eq_true h1; have := of_decide_eq_true h2; omega)
  tot := fun a b h1 h2 => by have := of_decide_eq_false h1; have := of_decide_eq_false h2; omega
/-- row by row -/
def lexB (lt : α → α → Bool) : List α → List α → Bool
  | [], [] => false
  | [], _ :: _ => true
  | _ :: _, [] => false
  | a :: l, b :: m => if a = b then lexB lt l m else lt a b
theorem lexB_irr (h : ∀ a, lt a a = false) : ∀ l : List α, lexB lt l l = false
  | [] => rfl
  | a :: l => by rw [lexB, if_pos rfl]; exact lexB_irr h l
theorem lexB_tr (h : OE e k lt) : ∀ a b c : List α, lexB lt a b = true → lexB lt b c = true → lexB lt a c = true
  | [], [], _, h1, _ => by simp [lexB] at h1
  | [], _ :: _, [], _, h2 => by simp [lexB] at h2
  | [], _ :: _, _ :: _, _, _ => rfl
  | _ :: _, [], _, h1, _ => by simp [lexB] at h1
  | _ :: _, _ :: _, [], _, h2 => by simp [lexB] at h2
  | a :: l, b :: m, c :: n, h1, h2 => by
    unfold lexB at h1 h2 ⊢
    by_cases e1 : a = b
    · subst e1
      rw [if_pos rfl] at h1
      by_cases e2 : a = c
      · subst e2
        rw [if_pos rfl] at h2 ⊢
        exact lexB_tr h l m n h1 h2
      · rw [if_neg e2] at h2 ⊢; exact h2
    · rw [if_neg e1] at h1
      by_cases e2 : b = c
      · subst e2
        rw [if_neg e1]; exact h1
      · rw [if_neg e2] at h2
        have h3 := h.tr _ _ _ h1 h2
        by_cases e3 : a = c
        · subst e3
          rw [h.irr] at h3; cases h3
        · rw [if_neg e3]; exact h3
theorem lexB_tot (h : OE e k lt) : ∀ a b : List α, lexB lt a b = false → lexB lt b a = false → a = b
  | [], [], _, _ => rfl
  | [], _ :: _, h1, _ => by simp [lexB] at h1
  | _ :: _, [], _, h2 => by simp [lexB] at h2
  | a :: l, b :: m, h1, h2 => by
    unfold lexB at h1 h2
    by_cases e1 : a = b
    · subst e1
      rw [if_pos rfl] at h1 h2
      rw [lexB_tot h l m h1 h2]
    · rw [if_neg e1] at h1
      rw [if_neg (Ne.symm e1)] at h2
      exact absurd (h.tot _ _ h1 h2) e1
theorem OE.tup (h : OE e k lt) : OE (eT e) (k + 1) (lexB lt) where
  E := h.E.tup
  cpr := fun l m => by
    show cprL (pyL (l.map e)) (pyL (m.map e)) = true
    induction l generalizing m with
    | nil => cases m <;> rfl
    | cons a l ih =>
      cases m with
      | nil => rfl
      | cons b m =>
        show (DL.cpr _ _ && cprL _ _) = true
        rw [h.cpr, ih]; rfl
  alk := fun l m => by
    show PySem.W.alikeAll (pyL (l.map e)) (pyL (m.map e)) = true
    induction l generalizing m with
    | nil => cases m <;> simp [pyL, PySem.W.alikeAll]
    | cons a l ih =>
      cases m with
      | nil => simp [pyL, PySem.W.alikeAll]
      | cons b m =>
        simp only [List.map_cons, pyL, PySem.W.alikeAll, h.alk, ih, Bool.and_self]
  ltP := fun l m => by
    show ltPL (pyL (l.map e)) (pyL (m.map e)) = _
    induction l generalizing m with
    | nil => cases m <;> rfl
    | cons a l ih =>
      cases m with
      | nil => rfl
      | cons b m =>
        simp only [List.map_cons, pyL, ltPL, lexB, h.eqv, decide_eq_true_eq, ih, h.ltP]
  leP := fun l m => by
    show lePL (pyL (l.map e)) (pyL (m.map e)) = _
    induction l generalizing m with
    | nil => cases m <;> rfl
    | cons a l ih =>
      cases m with
      | nil => rfl
      | cons b m =>
        simp only [List.map_cons, pyL, lePL, lexB, h.eqv, decide_eq_true_eq, ih, h.leP]
        by_cases q : a = b
        · rw [if_pos q, if_pos q.symm]
        · rw [if_neg q, if_neg (Ne.symm q)]
  dlt := fun l m => by
    show PySem.W.dataLt (.tuple (pyL (l.map e))) (.tuple (pyL (m.map e))) = _
    rw [PySem.W.dataLt_tuple]
    induction l generalizing m with
    | nil =>
      cases m with
      | nil => rfl
      | cons b m =>
        show PyProof.Rows.lexLt PyProof.Rows.itemOrd (PySem.W.keyToksAll []) (PySem.W.keyToksAll (py (e b) :: pyL (m.map e))) = true
        rw [PySem.W.toks_all_cons]
        rfl
    | cons a l ih =>
      cases m with
      | nil =>
        show PyProof.Rows.lexLt PyProof.Rows.itemOrd (PySem.W.keyToksAll (py (e a) :: pyL (l.map e))) (PySem.W.keyToksAll []) = false
        rw [PySem.W.toks_all_cons]
        rfl
      | cons b m =>
        show PyProof.Rows.lexLt PyProof.Rows.itemOrd (PySem.W.keyToksAll (py (e a) :: pyL (l.map e))) (PySem.W.keyToksAll (py (e b) :: pyL (m.map e))) = _
        rw [lexB]
        by_cases q : a = b
        · rw [if_pos q, PySem.W.dataLt_all_yes (h.alk _ _) (by rw [h.eqv]; exact decide_eq_true q), ih]
        · rw [if_neg q, PySem.W.dataLt_all_no (h.alk _ _) (by rw [h.eqv]; exact decide_eq_false q), h.dlt]
  irr := lexB_irr h.irr
  tr := lexB_tr h
  tot := lexB_tot h
def ltPr (lt : α → α → Bool) (lt2 : β → β → Bool) (p q : α × β) : Bool := if p.1 = q.1 then lt2 p.2 q.2 else lt p.1 q.1
theorem OE.pair (h : OE e k lt) (g : OE e2 k2 lt2) : OE (eP e e2) (max k k2 + 1) (ltPr lt lt2) where
  E := h.E.pair g.E
  cpr := fun p q => by
    show (DL.cpr _ _ && (DL.cpr _ _ && true)) = true
    rw [h.cpr, g.cpr]; rfl
  alk := fun p q => by
    show PySem.W.alikeAll [py (e p.1), py (e2 p.2)] [py (e q.1), py (e2 q.2)] = true
    simp only [PySem.W.alikeAll, h.alk, g.alk, Bool.and_self]
  ltP := fun p q => by
    show ltPL [py (e p.1), py (e2 p.2)] [py (e q.1), py (e2 q.2)] = _
    simp only [ltPL, ltPr, h.eqv, g.eqv, decide_eq_true_eq, h.ltP, g.ltP]
    by_cases e1 : p.2 = q.2
    · rw [if_pos e1, e1, g.irr]
    · rw [if_neg e1]
  leP := fun p q => by
    show lePL [py (e p.1), py (e2 p.2)] [py (e q.1), py (e2 q.2)] = _
    simp only [lePL, ltPr, h.eqv, g.eqv, decide_eq_true_eq, h.leP, g.leP]
    by_cases e0 : p.1 = q.1
    · rw [if_pos e0, if_pos e0.symm]
      by_cases e1 : p.2 = q.2
      · rw [if_pos e1, e1, g.irr]; rfl
      · rw [if_neg e1]
    · rw [if_neg e0, if_neg (Ne.symm e0)]
  dlt := fun p q => by
    show PySem.W.dataLt (.tuple [py (e p.1), py (e2 p.2)]) (.tuple [py (e q.1), py (e2 q.2)]) = _
    rw [PySem.W.dataLt_pair (h.alk _ _) (g.alk _ _), h.eqv, g.eqv, h.dlt, g.dlt]
    unfold ltPr
    simp only [decide_eq_true_eq]
    by_cases e1 : p.2 = q.2
    · rw [if_pos e1, e1, g.irr]
    · rw [if_neg e1]
  irr := fun p => by unfold ltPr; rw [if_pos rfl]; exact g.irr _
  tr := fun p q r h1 h2 => by
    unfold ltPr at *
    by_cases e1 : p.1 = q.1
    · rw [if_pos e1] at h1
      by_cases e2 : q.1 = r.1
      · rw [if_pos e2] at h2
        rw [if_pos (e1.trans e2)]
        exact g.tr _ _ _ h1 h2
      · rw [if_neg e2] at h2
        rw [e1, if_neg e2]; exact h2
    · rw [if_neg e1] at h1
      by_cases e2 : q.1 = r.1
      · rw [← e2, if_neg e1]; exact h1
      · rw [if_neg e2] at h2
        have h3 := h.tr _ _ _ h1 h2
        by_cases e3 : p.1 = r.1
        · rw [e3, h.irr] at h3; cases h3
        · rw [if_neg e3]; exact h3
  tot := fun p q h1 h2 => by
    unfold ltPr at *
    by_cases e1 : p.1 = q.1
    · rw [if_pos e1] at h1
      rw [if_pos e1.symm] at h2
      exact Prod.ext e1 (g.tot _ _ h1 h2)
    · rw [if_neg e1] at h1
      rw [if_neg (Ne.symm e1)] at h2
      exact absurd (h.tot _ _ h1 h2) e1
/-! what is asked of typed values by it -/
theorem OE.cmp (h : OE e k lt) (hk : k ≤ 60) (a : α) : cmpOk (e a) = true := h.E.cmp hk a
theorem OE.ord (h : OE e k lt) (hk : k ≤ 60) (a b : α) : ordOk (e a) (e b) = true := by
  unfold ordOk
  rw [h.cmp hk, h.cmp hk, h.cpr]; rfl
theorem OE.ltB (h : OE e k lt) (a b : α) : DL.ltB (e a) (e b) = lt a b := h.ltP a b
theorem OE.leB (h : OE e k lt) (a b : α) : DL.leB (e a) (e b) = !lt b a := h.leP a b
theorem OE.minOk (h : OE e k lt) (hk : k ≤ 60) (hn : NI e) (l : List α) : minOk (l.map e) = true := by
  unfold DL.minOk alkB
  simp only [Bool.and_eq_true, List.all_map]
  exact ⟨⟨List.all_eq_true.mpr fun a _ => h.cmp hk a, List.all_eq_true.mpr fun a _ => List.all_eq_true.mpr fun b _ => h.alk a b⟩, List.all_eq_true.mpr fun a _ => by show (!isNo (e a)) = true; rw [hn a]; rfl⟩
theorem OE.min (h : OE e k lt) (hk : k ≤ 60) (hn : NI e) (x : α) (xs : List α) : Pg.minE e (x :: xs) = .ret (minT lt x xs) := by
  unfold Pg.minE
  dsimp only
  rw [Pg.req_t (h.minOk hk hn (x :: xs))]
  have : (fun a b => PySem.W.dataLt (py (e a)) (py (e b))) = lt := by
    funext a b; exact h.dlt a b
  rw [this]
/-- the least by membership -/
theorem minT_mem {f : α → α → Bool} : ∀ (xs : List α) (x : α), minT f x xs ∈ x :: xs
  | [], x => List.mem_cons_self
  | y :: ys, x => by
    have := minT_mem (f := f) ys (if f y x = true then y else x)
    show minT f (if f y x = true then y else x) ys ∈ _
    rcases List.mem_cons.mp this with z | z
    · rw [z]
      split
      · exact List.mem_cons_of_mem _ List.mem_cons_self
      · exact List.mem_cons_self
    · exact List.mem_cons_of_mem _ (List.mem_cons_of_mem _ z)
theorem minT_le (h : OE e k lt) : ∀ (xs : List α) (x : α), ∀ y ∈ x :: xs, lt y (minT lt x xs) = false
  | [], x, y, hy => by rw [List.mem_singleton.mp hy]; exact h.irr x
  | z :: zs, x, y, hy => by
    show lt y (minT lt (if lt z x = true then z else x) zs) = false
    have ih := minT_le h zs (if lt z x = true then z else x)
    -- the better of x and z
    have ih0 := ih _ List.mem_cons_self
    have le_of : ∀ w, lt w (if lt z x = true then z else x) = false → lt w (minT lt (if lt z x = true then z else x) zs) = false := fun w hw => by
      cases q : lt w (minT lt (if lt z x = true then z else x) zs) with
      | false => rfl
      | true =>
        -- m ≤ b, w < m: w < b
        cases q2 : lt (minT lt (if lt z x = true then z else x) zs) (if lt z x = true then z else x) with
        | true => rw [h.tr _ _ _ q q2] at hw; cases hw
        | false =>
          have := h.tot _ _ q2 ih0
          rw [this] at q
          rw [q] at hw; cases hw
    rcases List.mem_cons.mp hy with e1 | hy
    · rw [e1]
      refine le_of x ?_
      split
      · rename_i hz
        cases q : lt x z with
        | false => rfl
        | true => have := h.tr _ _ _ q hz; rw [h.irr] at this; cases this
      · exact h.irr x
    · rcases List.mem_cons.mp hy with e1 | hy
      · rw [e1]
        refine le_of z ?_
        split
        · exact h.irr z
        · rename_i hz; simpa using hz
      · exact ih y (List.mem_cons_of_mem _ hy)
theorem minT_eq (h : OE e k lt) {x y : α} {xs ys : List α} (hm : ∀ a, a ∈ x :: xs ↔ a ∈ y :: ys) : minT lt x xs = minT lt y ys :=
  h.tot _ _ (minT_le h ys y _ ((hm _).mp (minT_mem xs x))) (minT_le h xs x _ ((hm _).mpr (minT_mem ys y)))
end
end DL

/-! renamed stores, orders, plain names -/
namespace DL
open PySem PySem.Spec L2
abbrev Sto := List (List Str)
def ltF := lexB ltS
def ltSt := lexB ltF
theorem oeF : OE (eT D.str) 1 ltF := OE.str.tup
theorem oeSt : OE (eT (eT D.str)) 2 ltSt := oeF.tup
/-- values put in the place of values -/
def chf (f : Str → Str) (a : List Str) : List Str := a.take 1 ++ (a.drop 1).map f
def renf (f : Str → Str) (s : Sto) : Sto := Rs.srtR (s.map (chf f))
def nmf (names : List (Str × Str)) (v : Str) : Str := dget names v v
theorem chF_f (names : List (Str × Str)) (a : List Str) : chF names a = chf (nmf names) a := rfl
theorem ren_f (names : List (Str × Str)) (s : Sto) : Rs.srtR (s.map (chF names)) = renf (nmf names) s := rfl
theorem chf_chf (f g : Str → Str) (a : List Str) : chf g (chf f a) = chf (g ∘ f) a := by
  cases a with
  | nil => rfl
  | cons r l => simp [chf]
theorem chf_drop (f : Str → Str) (a : List Str) : (chf f a).drop 1 = (a.drop 1).map f := by
  cases a with
  | nil => rfl
  | cons r l => simp [chf]
theorem chf_take (f : Str → Str) (a : List Str) : (chf f a).take 1 = a.take 1 := by
  cases a with
  | nil => rfl
  | cons r l => simp [chf]
theorem chf_len (f : Str → Str) (a : List Str) : (chf f a).length = a.length := by
  cases a with
  | nil => rfl
  | cons r l => simp [chf]
theorem chf_ne {f : Str → Str} {a : List Str} (h : a ≠ []) : chf f a ≠ [] := by
  cases a with
  | nil => exact absurd rfl h
  | cons r l => simp [chf]
theorem chf_id {f : Str → Str} {a : List Str} (h : ∀ v ∈ a.drop 1, f v = v) : chf f a = a := by
  unfold chf
  rw [List.map_congr_left h, List.map_id', List.take_append_drop]
theorem chf_congr {f g : Str → Str} {a : List Str} (h : ∀ v ∈ a.drop 1, f v = g v) : chf f a = chf g a := by
  unfold chf
  rw [List.map_congr_left h]
theorem mem_renf {f : Str → Str} {s : Sto} {a : List Str} : a ∈ renf f s ↔ ∃ b ∈ s, a = chf f b := by
  unfold renf
  rw [mem_srtR, List.mem_map]
  exact ⟨fun ⟨b, h1, h2⟩ => ⟨b, h1, h2.symm⟩, fun ⟨b, h1, h2⟩ => ⟨b, h1, h2.symm⟩⟩
theorem can_renf (f : Str → Str) (s : Sto) : CanR (renf f s) := can_srtR _
theorem renf_eq {f g : Str → Str} {s t : Sto} (h : ∀ a, (∃ b ∈ s, a = chf f b) ↔ ∃ b ∈ t, a = chf g b) : renf f s = renf g t :=
  (can_renf f s).eq (can_renf g t) fun a => by rw [mem_renf, mem_renf]; exact h a
/-- the values of a store -/
def valsOf (s : Sto) : List Str := s.flatMap (·.drop 1)
theorem mem_vals {s : Sto} {v : Str} : v ∈ valsOf s ↔ ∃ a ∈ s, v ∈ a.drop 1 := List.mem_flatMap
theorem renf_congr {f g : Str → Str} {s : Sto} (h : ∀ v ∈ valsOf s, f v = g v) : renf f s = renf g s := by
  unfold renf
  rw [List.map_congr_left fun a ha => chf_congr fun v hv => h v (mem_vals.mpr ⟨a, ha, hv⟩)]
theorem renf_renf (f g : Str → Str) (s : Sto) : renf g (renf f s) = renf (g ∘ f) s := by
  refine renf_eq fun a => ⟨fun ⟨b, h1, h2⟩ => ?_, fun ⟨b, h1, h2⟩ => ?_⟩
  · obtain ⟨c, h3, rfl⟩ := mem_renf.mp h1
    exact ⟨c, h3, by rw [h2, chf_chf]⟩
  · exact ⟨chf f b, mem_renf.mpr ⟨b, h1, rfl⟩, by rw [h2, chf_chf]⟩
theorem renf_id {f : Str → Str} {s : Sto} (hs : CanR s) (h : ∀ v ∈ valsOf s, f v = v) : renf f s = s := by
  have : s.map (chf f) = s := by
    have e : s.map (chf f) = s.map id := List.map_congr_left fun a ha => chf_id fun v hv => h v (mem_vals.mpr ⟨a, ha, hv⟩)
    rw [e, List.map_id]
  unfold renf
  rw [this]; exact srtR_can hs
theorem vals_renf {f : Str → Str} {s : Sto} {v : Str} : v ∈ valsOf (renf f s) ↔ ∃ u ∈ valsOf s, v = f u := by
  rw [mem_vals]
  constructor
  · rintro ⟨a, h1, h2⟩
    obtain ⟨b, h3, rfl⟩ := mem_renf.mp h1
    rw [chf_drop] at h2
    obtain ⟨u, h4, rfl⟩ := List.mem_map.mp h2
    exact ⟨u, mem_vals.mpr ⟨b, h3, h4⟩, rfl⟩
  · rintro ⟨u, h1, rfl⟩
    obtain ⟨b, h2, h3⟩ := mem_vals.mp h1
    exact ⟨chf f b, mem_renf.mpr ⟨b, h2, rfl⟩, by rw [chf_drop]; exact List.mem_map_of_mem h3⟩
theorem mem_unk {s : Sto} {v : Str} : v ∈ unkOf s ↔ v ∈ valsOf s ∧ isUnk v = true := by
  rw [mem_unkOf, mem_vals]
  constructor
  · rintro ⟨a, h1, h2⟩
    obtain ⟨h3, h4⟩ := List.mem_filter.mp h2
    exact ⟨⟨a, h1, h3⟩, h4⟩
  · rintro ⟨⟨a, h1, h2⟩, h3⟩
    exact ⟨a, h1, List.mem_filter.mpr ⟨h2, h3⟩⟩
theorem unk_can (s : Sto) : Can (unkOf s) := can_srtS _
theorem unk_nodup (s : Sto) : (unkOf s).Nodup := (unk_can s).1
/-- unknowns are named one-to-one; other values stay -/
structure Iso (f : Str → Str) (s : Sto) : Prop where
  con : ∀ v, isUnk v = false → f v = v
  unk : ∀ u ∈ unkOf s, isUnk (f u) = true
  inj : ∀ u ∈ unkOf s, ∀ v ∈ unkOf s, f u = f v → u = v
theorem Iso.injV {f : Str → Str} {s : Sto} (h : Iso f s) : ∀ u ∈ valsOf s, ∀ v ∈ valsOf s, f u = f v → u = v := fun u hu v hv e => by
  cases q : isUnk u with
  | true =>
    cases q2 : isUnk v with
    | true => exact h.inj u (mem_unk.mpr ⟨hu, q⟩) v (mem_unk.mpr ⟨hv, q2⟩) e
    | false =>
      have := h.unk u (mem_unk.mpr ⟨hu, q⟩)
      rw [e, h.con v q2, q2] at this; cases this
  | false =>
    cases q2 : isUnk v with
    | true =>
      have := h.unk v (mem_unk.mpr ⟨hv, q2⟩)
      rw [← e, h.con u q, q] at this; cases this
    | false => rw [h.con u q, h.con v q2] at e; exact e
theorem Iso.unks {f : Str → Str} {s : Sto} (h : Iso f s) {v : Str} : v ∈ unkOf (renf f s) ↔ ∃ u ∈ unkOf s, v = f u := by
  rw [mem_unk, vals_renf]
  constructor
  · rintro ⟨⟨u, h1, rfl⟩, h2⟩
    cases q : isUnk u with
    | true => exact ⟨u, mem_unk.mpr ⟨h1, q⟩, rfl⟩
    | false => rw [h.con u q, q] at h2; cases h2
  · rintro ⟨u, h1, rfl⟩
    exact ⟨⟨u, (mem_unk.mp h1).1, rfl⟩, h.unk u h1⟩
/-- the other way back -/
noncomputable def invf (f : Str → Str) (s : Sto) (v : Str) : Str := if h : ∃ u ∈ unkOf s, f u = v then h.choose else v
theorem invf_f {f : Str → Str} {s : Sto} (h : Iso f s) {u : Str} (hu : u ∈ unkOf s) : invf f s (f u) = u := by
  have hx : ∃ w ∈ unkOf s, f w = f u := ⟨u, hu, rfl⟩
  unfold invf
  rw [dif_pos hx]
  exact h.inj _ hx.choose_spec.1 _ hu hx.choose_spec.2
theorem Iso.back {f : Str → Str} {s : Sto} (h : Iso f s) : Iso (invf f s) (renf f s) where
  con := fun v hv => by
    unfold invf
    rw [dif_neg]
    rintro ⟨u, h1, rfl⟩
    rw [h.unk u h1] at hv; cases hv
  unk := fun v hv => by
    obtain ⟨u, h1, rfl⟩ := h.unks.mp hv
    rw [invf_f h h1]
    exact (mem_unk.mp h1).2
  inj := fun u hu v hv e => by
    obtain ⟨a, h1, rfl⟩ := h.unks.mp hu
    obtain ⟨b, h2, rfl⟩ := h.unks.mp hv
    rw [invf_f h h1, invf_f h h2] at e
    rw [e]
theorem Iso.round {f : Str → Str} {s : Sto} (h : Iso f s) (hs : CanR s) : renf (invf f s) (renf f s) = s := by
  rw [renf_renf]
  refine renf_id hs fun v hv => ?_
  show invf f s (f v) = v
  cases q : isUnk v with
  | true => exact invf_f h (mem_unk.mpr ⟨hv, q⟩)
  | false => rw [h.con v q]; exact h.back.con v q
theorem Iso.comp {f g : Str → Str} {s : Sto} (h : Iso f s) (k : Iso g (renf f s)) : Iso (g ∘ f) s := ⟨fun v hv => by
    (show g (f v) = v)
    (rw [h.con v hv, k.con v hv]), fun u hu => k.unk _ (h.unks.mpr ⟨u, hu, rfl⟩), fun u hu v hv e => h.inj u hu v hv (k.inj _ (h.unks.mpr ⟨u, hu, rfl⟩) _ (h.unks.mpr ⟨v, hv, rfl⟩) e)⟩
theorem Iso.len {f : Str → Str} {s : Sto} (h : Iso f s) : (unkOf (renf f s)).length = (unkOf s).length := by
  have e : unkOf (renf f s) = St.srtS ((unkOf s).map f) := (unk_can _).eq (can_srtS _) fun v => by
    rw [h.unks, mem_srtS, List.mem_map]
    exact ⟨fun ⟨u, h1, h2⟩ => ⟨u, h1, h2.symm⟩, fun ⟨u, h1, h2⟩ => ⟨u, h1, h2.symm⟩⟩
  have nd : ((unkOf s).map f).Nodup := by
    rw [List.nodup_iff_pairwise_ne, List.pairwise_map]
    exact List.Pairwise.imp_of_mem (fun {a b} ha hb hne e => hne (h.inj a ha b hb e)) (List.nodup_iff_pairwise_ne.mp (unk_nodup s))
  have p : (unkOf (renf f s)).Perm ((unkOf s).map f) := (List.perm_ext_iff_of_nodup (unk_nodup _) nd).mpr fun v => by rw [e, mem_srtS]
  rw [p.length_eq, List.length_map]
/-! ### all orders -/
def stepO (items : List Str) (found : List (List Str)) : List (List Str) := found.flatMap fun s => (items.filter fun i => !decide (i ∈ s)).map fun i => s ++ [i]
def itO (items : List Str) : Nat → List (List Str)
  | 0 => [[]]
  | k + 1 => stepO items (itO items k)
def ordsF (items : List Str) : List (List Str) := itO items items.length
theorem mem_itO {items : List Str} : ∀ {k : Nat} {o : List Str}, o ∈ itO items k ↔ o.Nodup ∧ (∀ x ∈ o, x ∈ items) ∧ o.length = k
  | 0, o => by
    simp only [itO, List.mem_singleton]
    constructor
    · rintro rfl; simp
    · rintro ⟨_, _, h⟩; exact List.length_eq_zero_iff.mp h
  | k + 1, o => by
    show o ∈ stepO items (itO items k) ↔ _
    unfold stepO
    rw [List.mem_flatMap]
    constructor
    · rintro ⟨s, h1, h2⟩
      obtain ⟨i, h3, rfl⟩ := List.mem_map.mp h2
      obtain ⟨h4, h5⟩ := List.mem_filter.mp h3
      obtain ⟨g1, g2, g3⟩ := mem_itO.mp h1
      have h5 : i ∉ s := by simpa using h5
      refine ⟨?_, fun x hx => ?_, by simp [g3]⟩
      · rw [List.nodup_append]
        exact ⟨g1, by simp, fun a ha b hb e => h5 (by rw [List.mem_singleton.mp hb] at e; exact e ▸ ha)⟩
      · rcases List.mem_append.mp hx with hx | hx
        · exact g2 x hx
        · rw [List.mem_singleton.mp hx]; exact h4
    · rintro ⟨h1, h2, h3⟩
      have hne : o ≠ [] := fun e => by rw [e] at h3; cases h3
      obtain ⟨s, i, rfl⟩ : ∃ s i, o = s ++ [i] := ⟨o.dropLast, o.getLast hne, (List.dropLast_concat_getLast hne).symm⟩
      obtain ⟨n1, n2, n3⟩ := List.nodup_append.mp h1
      refine ⟨s, mem_itO.mpr ⟨n1, fun x hx => h2 x (List.mem_append_left _ hx), by simpa using h3⟩, List.mem_map.mpr ⟨i, List.mem_filter.mpr ⟨h2 i (by simp), ?_⟩, rfl⟩⟩
      have : i ∉ s := fun hi => n3 i hi i (by simp) rfl
      simpa using this
theorem mem_ordsF {items o : List Str} : o ∈ ordsF items ↔ o.Nodup ∧ (∀ x ∈ o, x ∈ items) ∧ o.length = items.length := mem_itO
theorem itO_len (items : List Str) : ∀ k, (itO items k).length ≤ items.length ^ k
  | 0 => Nat.le_refl 1
  | k + 1 => by
    have h := flat_len (fun s => (items.filter fun i => !decide (i ∈ s)).map fun i => s ++ [i]) items.length (xs := itO items k) fun s _ => by
      rw [List.length_map]; exact List.length_filter_le _ _
    have ih := itO_len items k
    have h2 := Nat.mul_le_mul_right items.length ih
    rw [Nat.pow_succ]
    exact Nat.le_trans h h2
/-! ### new names -/
def newU (n : Nat) : List Str := (rng 0 n).map fun k => Str.ofString "?" ++ Str.ofString (toString (k + 1))
theorem newU_len (n : Nat) : (newU n).length = n := by
  unfold newU
  rw [List.length_map, rng_len]; omega
theorem newU_ok : ∀ n, n ≤ 20 → (newU n).Nodup ∧ ∀ t ∈ newU n, PyData.strOk t = true ∧ 1 ≤ t.length ∧ t.length ≤ 8 ∧ isUnk t = true := by
  have : ∀ n : Fin 21, (newU n).Nodup ∧ ∀ t ∈ newU n, PyData.strOk t = true ∧ 1 ≤ t.length ∧ t.length ≤ 8 ∧ isUnk t = true := by decide +kernel
  exact fun n hn => this ⟨n, by omega⟩
theorem newU_nodup {n : Nat} (hn : n ≤ 20) : (newU n).Nodup := (newU_ok n hn).1
theorem newU_vl {n : Nat} (hn : n ≤ 20) {t : Str} (h : t ∈ newU n) : Vl t ∧ isUnk t = true := by
  obtain ⟨h1, h2, h3, h4⟩ := (newU_ok n hn).2 t h
  exact ⟨⟨h1, h2, h3⟩, h4⟩
end DL

/-! the plain store -/
namespace DL
open PySem PySem.Spec L2
section
variable {α : Type}
theorem put_new {l : List (Str × α)} {k : Str} {v : α} (h : k ∉ l.map (·.1)) : dput l k v = l ++ [(k, v)] := by
  unfold dput
  rw [if_neg]
  intro z
  exact h (has_iff.mp z)
theorem merge_kn {l : List (Str × α)} (h : KN l) : dmerge l = l := by
  have gen : ∀ (l acc : List (Str × α)), KN (acc ++ l) → l.foldl (fun acc p => dput acc p.1 p.2) acc = acc ++ l := by
    intro l
    induction l with
    | nil => intro acc _; simp
    | cons p l ih =>
      intro acc h
      rw [List.foldl_cons]
      have hp : p.1 ∉ acc.map (·.1) := by
        unfold KN at h
        rw [List.map_append, List.nodup_append] at h
        exact fun z => h.2.2 p.1 z p.1 (by simp) rfl
      rw [put_new hp, ih _ (by rw [List.append_assoc]; exact h), List.append_assoc]
      rfl
  exact gen l [] h
theorem get_of {l : List (Str × α)} {k : Str} {v z : α} (h : KN l) (hm : (k, v) ∈ l) : dget l k z = v := by
  unfold dget
  rw [look_of h hm]; rfl
theorem get_no {l : List (Str × α)} {k : Str} {z : α} (h : k ∉ l.map (·.1)) : dget l k z = z := by
  rcases get_mem (l := l) (k := k) (z := z) with e | e
  · exact e
  · exact absurd (List.mem_map.mpr ⟨_, e, rfl⟩) h
theorem zip_fst {α β : Type} : ∀ {l : List α} {m : List β}, l.length ≤ m.length → (l.zip m).map (·.1) = l
  | [], _, _ => rfl
  | _ :: _, [], h => by simp at h
  | a :: l, b :: m, h => by
    rw [List.zip_cons_cons, List.map_cons, zip_fst (by simpa using h)]
theorem kn_zip {l : List Str} {m : List α} (h : l.Nodup) (hl : l.length ≤ m.length) : KN (l.zip m) := by
  unfold KN
  rw [zip_fst hl]; exact h
end
/-- as many unlike ones: all of them -/
theorem all_of {α : Type} [DecidableEq α] {l m : List α} (h : l.Nodup) (hs : ∀ x ∈ l, x ∈ m) (hl : m.length ≤ l.length) : ∀ x ∈ m, x ∈ l := fun x hx => by
  by_cases q : x ∈ l
  · exact q
  · have := nodup_le (x :: l) m (List.nodup_cons.mpr ⟨q, h⟩) fun y hy => by
      rcases List.mem_cons.mp hy with z | z
      · rw [z]; exact hx
      · exact hs y z
    simp at this
    omega
def candF (s : Sto) : List Sto := (ordsF (unkOf s)).map fun o => renf (nmf (dmerge (o.zip (newU (unkOf s).length)))) s
def plainF (s : Sto) : Sto := match candF s with
  | [] => []
  | x :: xs => minT ltSt x xs
theorem nmf_zip {o n : List Str} (ho : o.Nodup) (hl : o.length = n.length) {i : Nat} (hi : i < o.length) : nmf (dmerge (o.zip n)) o[i] = n[i] := by
  have kn := kn_zip (m := n) ho (by omega)
  unfold nmf
  rw [merge_kn kn]
  refine get_of kn ?_
  rw [List.mem_iff_getElem]
  exact ⟨i, by rw [List.length_zip]; omega, by simp⟩
theorem nmf_out {o n : List Str} (ho : o.Nodup) (hl : o.length = n.length) {v : Str} (hv : v ∉ o) : nmf (dmerge (o.zip n)) v = v := by
  have kn := kn_zip (m := n) ho (by omega)
  unfold nmf
  rw [merge_kn kn]
  exact get_no (by rw [zip_fst (by omega)]; exact hv)
/-- names in an order to unlike new ones -/
theorem iso_zip {o n : List Str} {s : Sto} (ho : o.Nodup) (hl : o.length = n.length) (hn : n.Nodup) (hu : ∀ t ∈ n, isUnk t = true) (h1 : ∀ x ∈ o, isUnk x = true) (h2 : ∀ u ∈ unkOf s, u ∈ o) : Iso (nmf (dmerge (o.zip n))) s ∧ ∀ u ∈ o, nmf (dmerge (o.zip n)) u ∈ n := by
  have key : ∀ u ∈ o, ∃ (i : Nat) (hi : i < o.length), u = o[i] ∧ nmf (dmerge (o.zip n)) u = n[i] := fun u h => by
    obtain ⟨i, hi, rfl⟩ := List.mem_iff_getElem.mp h
    exact ⟨i, hi, rfl, nmf_zip ho hl hi⟩
  refine ⟨⟨fun v hv => nmf_out ho hl fun z => (by rw [h1 v z] at hv; cases hv), fun u h => ?_, fun u h v h' e => ?_⟩, fun u h => ?_⟩
  · obtain ⟨i, hi, _, e⟩ := key u (h2 u h)
    rw [e]; exact hu _ (List.getElem_mem _)
  · obtain ⟨i, hi, e1, e2⟩ := key u (h2 u h)
    obtain ⟨j, hj, e3, e4⟩ := key v (h2 v h')
    rw [e2, e4] at e
    have := (List.getElem_inj hn).mp e
    subst this
    rw [e1, e3]
  · obtain ⟨i, hi, _, e⟩ := key u h
    rw [e]; exact List.getElem_mem _
theorem cand_iff {s y : Sto} (hn : (unkOf s).length ≤ 20) : y ∈ candF s ↔ ∃ g, Iso g s ∧ (∀ u ∈ unkOf s, g u ∈ newU (unkOf s).length) ∧ y = renf g s := by
  have nl := newU_len (unkOf s).length
  have nd := newU_nodup hn
  unfold candF
  rw [List.mem_map]
  constructor
  · rintro ⟨o, ho, rfl⟩
    obtain ⟨h1, h2, h3⟩ := mem_ordsF.mp ho
    have al := all_of h1 h2 (by omega)
    obtain ⟨i1, i2⟩ := iso_zip (s := s) h1 (by omega) nd (fun t ht => (newU_vl hn ht).2) (fun x hx => (mem_unk.mp (h2 x hx)).2) al
    exact ⟨_, i1, fun u hu => i2 u (al u hu), rfl⟩
  · rintro ⟨g, hg, hg2, rfl⟩
    have mnd : ((unkOf s).map g).Nodup := by
      rw [List.nodup_iff_pairwise_ne, List.pairwise_map]
      exact List.Pairwise.imp_of_mem (fun {a b} ha hb hne e => hne (hg.inj a ha b hb e)) (List.nodup_iff_pairwise_ne.mp (unk_nodup s))
    have sur : ∀ t ∈ newU (unkOf s).length, ∃ u ∈ unkOf s, t = g u := fun t ht => by
      have := all_of mnd (m := newU (unkOf s).length) (fun x hx => by obtain ⟨u, hu, rfl⟩ := List.mem_map.mp hx; exact hg2 u hu) (by rw [List.length_map]; omega) t ht
      obtain ⟨u, hu, e⟩ := List.mem_map.mp this
      exact ⟨u, hu, e.symm⟩
    have ond : ((newU (unkOf s).length).map (invf g s)).Nodup := by
      rw [List.nodup_iff_pairwise_ne, List.pairwise_map]
      refine List.Pairwise.imp_of_mem (fun {a b} ha hb hne e => hne ?_) (List.nodup_iff_pairwise_ne.mp nd)
      obtain ⟨u, hu, rfl⟩ := sur a ha
      obtain ⟨v, hv, rfl⟩ := sur b hb
      rw [invf_f hg hu, invf_f hg hv] at e
      rw [e]
    refine ⟨(newU (unkOf s).length).map (invf g s), mem_ordsF.mpr ⟨ond, fun x hx => ?_, by rw [List.length_map]; exact nl⟩, ?_⟩
    · obtain ⟨t, ht, rfl⟩ := List.mem_map.mp hx
      obtain ⟨u, hu, rfl⟩ := sur t ht
      rw [invf_f hg hu]; exact hu
    · refine renf_congr fun v hv => ?_
      cases q : isUnk v with
      | true =>
        have hu := mem_unk.mpr ⟨hv, q⟩
        have kn := kn_zip (m := newU (unkOf s).length) ond (by rw [List.length_map]; omega)
        unfold nmf
        rw [merge_kn kn]
        refine get_of kn ?_
        obtain ⟨i, hi, e⟩ := List.mem_iff_getElem.mp (hg2 v hu)
        rw [List.mem_iff_getElem]
        refine ⟨i, by rw [List.length_zip, List.length_map]; omega, ?_⟩
        rw [List.getElem_zip, List.getElem_map, e, invf_f hg hu]
      | false =>
        rw [hg.con v q]
        refine nmf_out ond (by rw [List.length_map]) fun z => ?_
        obtain ⟨t, ht, e⟩ := List.mem_map.mp z
        obtain ⟨u, hu, rfl⟩ := sur t ht
        rw [invf_f hg hu] at e
        subst e
        rw [(mem_unk.mp hu).2] at q; cases q
theorem cand_ne (s : Sto) : candF s ≠ [] := fun e => by
  have h : unkOf s ∈ ordsF (unkOf s) := mem_ordsF.mpr ⟨unk_nodup s, fun _ h => h, rfl⟩
  have : renf (nmf (dmerge ((unkOf s).zip (newU (unkOf s).length)))) s ∈ candF s := List.mem_map.mpr ⟨_, h, rfl⟩
  rw [e] at this; cases this
theorem plain_mem (s : Sto) : plainF s ∈ candF s := by
  unfold plainF
  have := cand_ne s
  cases q : candF s with
  | nil => exact absurd q this
  | cons x xs => exact minT_mem xs x
theorem plain_eq_of {s t : Sto} (h : ∀ y, y ∈ candF s ↔ y ∈ candF t) : plainF s = plainF t := by
  have h1 := cand_ne s
  have h2 := cand_ne t
  unfold plainF
  cases q : candF s with
  | nil => exact absurd q h1
  | cons x xs =>
    cases q2 : candF t with
    | nil => exact absurd q2 h2
    | cons y ys =>
      rw [q, q2] at h
      exact minT_eq oeSt h
/-- it is a store renamed -/
theorem plain_iso {s : Sto} (hn : (unkOf s).length ≤ 20) : ∃ g, Iso g s ∧ (∀ u ∈ unkOf s, g u ∈ newU (unkOf s).length) ∧ plainF s = renf g s := (cand_iff hn).mp (plain_mem s)
/-- it is the same for the renamed one -/
theorem plain_ren {f : Str → Str} {s : Sto} (hn : (unkOf s).length ≤ 20) (hs : CanR s) (h : Iso f s) : plainF (renf f s) = plainF s := by
  refine plain_eq_of fun y => ?_
  rw [cand_iff hn, cand_iff (by rw [h.len]; exact hn), h.len]
  constructor
  · rintro ⟨g, h1, h2, rfl⟩
    exact ⟨g ∘ f, h.comp h1, fun u hu => h2 _ (h.unks.mpr ⟨u, hu, rfl⟩), renf_renf _ _ _⟩
  · rintro ⟨g, h1, h2, rfl⟩
    have hb := h.back
    have hr := h.round hs
    refine ⟨g ∘ invf f s, hb.comp (by rw [hr]; exact h1), fun u hu => ?_, ?_⟩
    · obtain ⟨v, hv, rfl⟩ := h.unks.mp hu
      show g (invf f s (f v)) ∈ _
      rw [invf_f h hv]; exact h2 v hv
    · rw [← renf_renf, hr]
theorem plain_plain {s : Sto} (hn : (unkOf s).length ≤ 20) (hs : CanR s) : plainF (plainF s) = plainF s := by
  obtain ⟨g, h1, _, h3⟩ := plain_iso hn
  rw [h3, plain_ren hn hs h1, h3]
/-- stores of one plain store are renamed ones of each other -/
theorem iso_of_plain {s t : Sto} (hs : CanR s) (ht : CanR t) (hn : (unkOf s).length ≤ 20) (hm : (unkOf t).length ≤ 20) (h : plainF s = plainF t) : ∃ f, Iso f s ∧ renf f s = t := by
  obtain ⟨g, h1, _, h3⟩ := plain_iso hn
  obtain ⟨k, k1, _, k3⟩ := plain_iso hm
  rw [h3, k3] at h
  refine ⟨invf k t ∘ g, h1.comp (by rw [h]; exact k1.back), ?_⟩
  rw [← renf_renf, h, k1.round ht]
theorem plain_can {s : Sto} : CanR (plainF s) := by
  have := plain_mem s
  unfold candF at this
  obtain ⟨o, _, e⟩ := List.mem_map.mp this
  rw [← e]; exact can_renf _ _
theorem Fs.ren {n m : Nat} {s : Sto} {f : Str → Str} (h : Fs n m s) (hf : ∀ v ∈ valsOf s, Vl (f v)) : Fs n m (renf f s) := by
  refine ⟨Nat.le_trans (len_srtR _) (by rw [List.length_map]; exact h.1), fun a ha => ?_⟩
  obtain ⟨b, hb, rfl⟩ := mem_renf.mp ha
  obtain ⟨h1, h2, h3⟩ := h.2 b hb
  refine ⟨chf_ne h1, by rw [chf_len]; exact h2, fun t ht => ?_⟩
  rcases List.mem_append.mp ht with ht | ht
  · exact h3 t (List.mem_of_mem_take ht)
  · obtain ⟨v, hv, rfl⟩ := List.mem_map.mp ht
    exact hf v (mem_vals.mpr ⟨b, hb, hv⟩)
theorem Fs.val {n m : Nat} {s : Sto} (h : Fs n m s) {v : Str} (hv : v ∈ valsOf s) : Vl v := by
  obtain ⟨a, h1, h2⟩ := mem_vals.mp hv
  exact (h.2 a h1).2.2 v (List.mem_of_mem_drop h2)
theorem Fs.plain {n m : Nat} {s : Sto} (h : Fs n m s) (hn : (unkOf s).length ≤ 20) : Fs n m (plainF s) ∧ (unkOf (plainF s)).length = (unkOf s).length := by
  obtain ⟨g, h1, h2, h3⟩ := plain_iso hn
  rw [h3]
  refine ⟨h.ren fun v hv => ?_, h1.len⟩
  cases q : isUnk v with
  | true => exact (newU_vl hn (h2 v (mem_unk.mpr ⟨hv, q⟩))).1
  | false => rw [h1.con v q]; exact h.val hv
end DL

/-! runs of the usual pieces -/
namespace DL
open PySem PySem.Spec L2
section
variable {α β γ σ : Type}
theorem mapM_z {f : α → Pg β} (g : α → β) {xs : List α} (h : ∀ x ∈ xs, f x = .ret (g x)) (hl : xs.length ≤ 16777216) : Pg.lcM f xs = .ret (xs.map g) := by
  unfold Pg.lcM
  rw [Pg.req_t (le_of_sz hl), Pg.mapM_ret h]
  rfl
theorem lcA_z {g : α → β} {xs : List α} (h : xs.length ≤ 16777216) : Pg.lcA g xs = .ret (xs.map g) := Pg.req_t (le_of_sz h)
theorem lcF_z {q : α → Bool} {g : α → β} {xs : List α} (h : xs.length ≤ 16777216) : Pg.lcF q g xs = .ret ((xs.filter q).map g) := Pg.req_t (le_of_sz h)
theorem lcB_z {test : α → Pg Bool} {elt : α → Pg β} (t : α → Bool) (g : α → β) {xs : List α} (h : ∀ x ∈ xs, test x = .ret (t x)) (h2 : ∀ x ∈ xs, t x = true → elt x = .ret (g x)) (hl : xs.length ≤ 16777216) : Pg.lcB test elt xs = .ret ((xs.filter t).map g) := by
  unfold Pg.lcB Pg.lcO
  rw [Pg.req_t (le_of_sz hl), Pg.mapO_ret (g := fun x => if t x = true then some (g x) else none) fun x hx => by
    rw [h x hx, Pg.bind_ret]
    by_cases q : t x = true
    · rw [if_pos q, if_pos q, h2 x hx q]; rfl
    · rw [if_neg q, if_neg q]]
  show Pg.ret _ = _
  congr 1
  clear h h2 hl
  induction xs with
  | nil => rfl
  | cons x xs ih =>
    rw [List.filterMap_cons, List.filter_cons]
    by_cases q : t x = true
    · rw [if_pos q, if_pos q]; simp [ih]
    · rw [if_neg q, if_neg q]; exact ih
theorem fold_it {body : α → σ → Pg σ} (st : Nat → σ) : ∀ (l : List α) (j : Nat), (∀ x ∈ l, ∀ i, j ≤ i → i < j + l.length → body x (st i) = .ret (st (i + 1))) → Pg.foldP body l (st j) = .ret (st (j + l.length))
  | [], j, _ => rfl
  | x :: l, j, h => by
    rw [Pg.foldP, h x List.mem_cons_self j (Nat.le_refl _) (by simp), Pg.bind_ret, fold_it st l (j + 1) (fun y hy i h1 h2 => h y (List.mem_cons_of_mem _ hy) i (by omega) (by simp at h2 ⊢; omega))]
    congr 2
    simp; omega
end
theorem cut_t1 (f : List Str) : cutL f none (some (1 : Int)) = f.take 1 := cut_to' f 1
theorem ch_t {names : List (Str × Str)} {f : List Str} (h : f.length ≤ 40) : (((Pg.lcA (fun value => (dget names value value)) (cutL f (some (1 : Int)) none)).bind fun z => (.ret z)).bind fun z1 => (Pg.req ((cutL f none (some (1 : Int))).length + z1.length ≤ sizeLine) (.ret ((cutL f none (some (1 : Int))) ++ z1))) : Pg (List Str)) = .ret (chF names f) := by
  rw [cut_1, lcA_t (by rw [List.length_drop]; omega), Pg.bind_ret, Pg.bind_ret, cut_t1, Pg.req_t (le_sz (by rw [List.length_take, List.length_map, List.length_drop]; omega))]
  rfl
theorem newU_t {n : Nat} (hn : n ≤ 20) : (Pg.lcM (fun k => ((Pg.req (0 ≤ (k + (1 : Int)) ∧ (k + (1 : Int)) < 10000000000) (.ret (Str.ofString (toString (k + (1 : Int)))))).bind fun z => (Pg.req ((Str.ofString "?").length + z.length ≤ sizeLine) (.ret ((Str.ofString "?") ++ z))))) (rng 0 n) : Pg (List Str)) = .ret (newU n) := by
  refine mapM_z (fun k => Str.ofString "?" ++ Str.ofString (toString (k + 1))) (fun k hk => ?_) (by rw [rng_len]; omega)
  obtain ⟨h1, h2⟩ := mem_rng.mp hk
  have hm : (Str.ofString "?" ++ Str.ofString (toString (k + 1))) ∈ newU n := List.mem_map.mpr ⟨k, hk, rfl⟩
  have := (newU_vl hn hm).1.2.2
  rw [len_app] at this
  rw [Pg.req_t (by omega), Pg.bind_ret, Pg.req_t (le_sz (by omega))]
theorem pow8 {n : Nat} (h : n ≤ 8) : n ^ n ≤ 16777216 := by
  have : ∀ n : Fin 9, n.val ^ n.val ≤ 16777216 := by decide
  exact this ⟨n, by omega⟩
theorem pow_k {n k : Nat} (h : n ≤ 8) (hk : k ≤ n) : n ^ k ≤ 16777216 := by
  cases n with
  | zero => have : k = 0 := by omega
            subst this; decide
  | succ n => exact Nat.le_trans (Nat.pow_le_pow_right (by omega) hk) (pow8 h)
theorem stepO_t {items : List Str} {found : List (List Str)} (hf : found.length * items.length ≤ 16777216) (hl : ∀ s ∈ found, s.length ≤ 100) : (Pg.lc2 (fun some_ => (.ret true)) (fun some_ => (.ret items)) (fun some_ item => (Pg.ret (!(decide (item ∈ some_))))) (fun some_ item => (Pg.req (some_.length + [item].length ≤ sizeLine) (.ret (some_ ++ [item])))) found : Pg (List (List Str))) = .ret (stepO items found) := by
  rw [lc2_ret (fun _ => items) (fun s i => !decide (i ∈ s)) (fun s i => s ++ [i]) (fun _ _ => rfl) (fun _ _ _ _ => rfl) (fun s hs i _ _ => Pg.req_t (le_sz (by have := hl s hs; simp; omega))) ?_]
  · rfl
  · refine le_of_sz (Nat.le_trans (flat_len (fun _ => items) items.length fun _ _ => Nat.le_refl _) hf)
theorem stepO_l {items : List Str} {found : List (List Str)} (hi : items.length ≤ 100) (hf : found.length * items.length ≤ 16777216) (hl : ∀ s ∈ found, s.length ≤ 100) : (Pg.foldP (fun some_ later =>
 (((Pg.lcB (fun item => (Pg.ret (!(decide (item ∈ some_))))) (fun item => (Pg.req (some_.length + [item].length ≤ sizeLine) (.ret (some_ ++ [item])))) items).bind fun z => (Pg.req (later.length + z.length ≤ sizeLine) (.ret (later ++ z)))).bind fun later1 =>
 .ret later1 : Pg (List (List Str)))) found ([] : (List (List Str)))) = .ret (stepO items found) := by
  refine (foldP_flat (fun s => (items.filter fun i => !decide (i ∈ s)).map fun i => s ++ [i]) (fun s hs later => ?_) ?_).trans (by rw [List.nil_append]; rfl)
  · rw [lcB_z (fun i => !decide (i ∈ s)) (fun i => s ++ [i]) (fun _ _ => rfl) (fun i _ _ => Pg.req_t (le_sz (by have := hl s hs; simp; omega))) (by omega), Pg.bind_ret, Pg.ret_bind]
    rfl
  · have := flat_len (fun s => (items.filter fun i => !decide (i ∈ s)).map fun i => s ++ [i]) items.length (xs := found) fun s _ => by
      rw [List.length_map]; exact List.length_filter_le _ _
    simp only [List.length_nil, Nat.zero_add]
    omega
end DL

/-! drawn stores: what their unknowns are -/
namespace DL
open PySem PySem.Spec L2
theorem dfact_val {kinds : List (Str × Int)} {values : List Str} {s : Sto} (h : ∀ a ∈ s, DFact kinds values a) {v : Str} (hv : v ∈ valsOf s) : v ∈ values := by
  obtain ⟨a, h1, h2⟩ := mem_vals.mp hv
  obtain ⟨kd, _, ts, rfl, _, h3⟩ := h a h1
  exact h3 v (by simpa using h2)
/-- words and unknowns: the unknowns of a store are among these -/
theorem unk_sub {ws us : List Str} {s : Sto} (hw : ∀ w ∈ ws, isUnk w = false) (h : ∀ v ∈ valsOf s, v ∈ ws ++ us) : ∀ u ∈ unkOf s, u ∈ us := fun u hu => by
  obtain ⟨h1, h2⟩ := mem_unk.mp hu
  rcases List.mem_append.mp (h u h1) with z | z
  · rw [hw u z] at h2; cases h2
  · exact z
theorem unk_le {us : List Str} {s : Sto} (h : ∀ u ∈ unkOf s, u ∈ us) : (unkOf s).length ≤ us.length := nodup_le _ _ (unk_nodup s) h
theorem stL_sh {l : List Sto} {n m : Nat} (hn : n ≤ 80) (hm : m ≤ 9) (hl : l.length ≤ 12) (h : ∀ s ∈ l, Fs n m s) : shOk (eL (eT (eT D.str)) l) = true :=
  (Wd.lst 12 wdStore).sh (EqE.lst eqStore) (by decide) (by decide) ⟨hl, fun s hs => ⟨Nat.le_trans (h s hs).1 hn, fun a ha => ⟨Nat.le_trans ((h s hs).2 a ha).2.1 hm, fun t ht => ⟨(((h s hs).2 a ha).2.2 t ht).1, (((h s hs).2 a ha).2.2 t ht).2.2⟩⟩⟩⟩
theorem bl_sh {l : List Bool} (hl : l.length ≤ 100) : shOk (eL D.bl l) = true := (Wd.lst 100 Wd.bl).sh (EqE.lst EqE.bl) (by decide) (by decide) ⟨hl, fun _ _ => trivial⟩
end DL
namespace DL
open PySem PySem.Spec L2
theorem nmf_mem (names : List (Str × Str)) (v : Str) : nmf names v = v ∨ (v, nmf names v) ∈ names := get_mem
theorem nmf_zip_mem {o n : List Str} (v : Str) : nmf (dmerge (o.zip n)) v = v ∨ (v ∈ o ∧ nmf (dmerge (o.zip n)) v ∈ n) := by
  rcases nmf_mem (dmerge (o.zip n)) v with h | h
  · exact .inl h
  · have := List.of_mem_zip (merge_mem h)
    exact .inr this
theorem unk_ren_le {f : Str → Str} {s : Sto} (h : ∀ v ∈ valsOf s, isUnk v = false → isUnk (f v) = false) : (unkOf (renf f s)).length ≤ (unkOf s).length := by
  rw [← List.length_map (f := f) (as := unkOf s)]
  refine nodup_le _ _ (unk_nodup _) fun v hv => ?_
  obtain ⟨h1, h2⟩ := mem_unk.mp hv
  obtain ⟨u, h3, rfl⟩ := vals_renf.mp h1
  cases q : isUnk u with
  | true => exact List.mem_map_of_mem (mem_unk.mpr ⟨h3, q⟩)
  | false => rw [h u h3 q] at h2; cases h2
theorem Fs.sub {n m : Nat} {s t : Sto} (h : Fs n m s) (hl : t.length ≤ n) (ht : ∀ a ∈ t, a ∈ s) : Fs n m t := ⟨hl, fun a ha => h.2 a (ht a ha)⟩
theorem unk_mono {s t : Sto} (ht : ∀ a ∈ t, a ∈ s) : ∀ u ∈ unkOf t, u ∈ unkOf s := fun u hu => by
  obtain ⟨a, h1, h2⟩ := mem_unkOf.mp hu
  exact mem_unkOf.mpr ⟨a, ht a h1, h2⟩
theorem CanR.drop {s : Sto} (h : CanR s) (k : Nat) : CanR (s.drop k) := ⟨h.1.sublist (List.drop_sublist k s), h.2.sublist (List.drop_sublist k s)⟩
theorem cut_sub {α : Type} (l : List α) (a b : Option Int) : (cutL l a b).Sublist l := (List.take_sublist _ _).trans (List.drop_sublist _ _)
end DL

namespace DL
open PySem PySem.Spec L2
def topS (i : Nat) : Stmt := PySem.Challenge.pw_corestore_k06_same_but_for_names.main.body.getD i (.Pass ⟨0, 0, 0, 0⟩)
abbrev s_law_deck : Stmt := topS 10
theorem sc_law_deck : FnScope ["_law_script"] ["_law_script"] (defScope s_law_deck) := ⟨rfl, rfl, rfl, by decide +kernel, rfl, by decide +kernel, by decide +kernel⟩
theorem ok_law_deck {P : Program} {w : World} {K : PySem.W.Frag} {mg : Str → Option Value} {base : Heap} {f : Addr} {fd : FuncData} {k : Nat} (F : Fun K "_law_deck" "_law_deck" s_law_deck f fd) (ml : mg "list" = none) : FnOk P w K mg base CX0 (k + 1) f fd ["_law_script"] (spDeck K) := by
  refine F.ok sc_law_deck (fun vs H Q E h => by obtain ⟨a, ns, e, _⟩ := h; rw [e]; rfl) (fun cdv A outer s0 H vs Q E hr h => ?_)
  obtain ⟨a, ns, e, hs, q⟩ := deck_end h
  subst e
  refine ⟨_, pss_one (ps_ret (pe_lst (pa_cons (pe_callTy call_list_of (by rfl) ml (by decide +kernel) (pa_cons (pe_slice sl_list (pv 0) po_none (po_some pe_int)) pa_nil)) (pa_cons pe_int (pa_cons pe_int (pa_cons pe_int pa_nil)))))), ?_⟩
  exact ⟨.ref a, rfl, 63, rfl, a, _, rfl, hs, fun c hc => ⟨c, _, rfl, .inl (SqL.of upd_same), fun l hl => ⟨by show 4 ≤ sizeLine; decide, fun p hp => q c hc l hl p hp⟩⟩⟩

def d_law_put : DS := (seqS
 (asgS 2 (lcT (.nm 3) (rowI (vS 0)) yesT (bin2 (sl3 (vS 3) noPart (intPart (kD (.int 1))) slD) (un1 (lcT (.nm 4) (rowI (sl3 (vS 3) (intPart (kD (.int 1))) noPart slD)) yesT (getT (vS 1) (vS 4) (vS 4)) [4]) tupleD) addD) [3]))
 (seqS
 (retS (un1 (un1 (vS 2) ssetD) tupleD))
 skipS))
def m_law_put : MD := defM 5 d_law_put
abbrev s_law_put : Stmt := topS 19
theorem sc_law_put : FnScope ["_law_store_here", "_law_names_here", "_law_row", "_law_fact", "_law_value"] ["_law_store_here", "_law_names_here"] (defScope s_law_put) := ⟨rfl, rfl, rfl, by decide +kernel, rfl, by decide +kernel, by decide +kernel⟩
theorem ok_law_put {P : Program} {w : World} {K : PySem.W.Frag} {mg : Str → Option Value} {base : Heap} {f : Addr} {fd : FuncData} {k : Nat} (F : Fun K "_law_put" "_law_put" s_law_put f fd) (hx : mg "_law_put" = some (.ref f)) (hb : Binds K fd ["_law_store_here", "_law_names_here"] []) (z_tuple : mg "tuple" = none) (z_sorted : mg "sorted" = none) (z_set : mg "set" = none) : FOk P w K mg base (k + 1) ⟨"_law_put", 2, m_law_put⟩ :=
  fok F sc_law_put hx hb rfl (by decide) fun X c hK hm G hf hp => s_cons (s_lc (own' := false) G (by decide +kernel) rfl [("_law_fact", 3)] (sw_lc G rfl (by decide +kernel) rfl (by decide +kernel)) (i_row G.K (e_v G 0 (by decide +kernel))) (by decide +kernel) (by decide +kernel) (fun _ => rfl) (fun X1 c1 G1 _ f1 => g_nm G1 (.inr (by decide +kernel)) (by decide +kernel)) (fun X2 c2 a2 b2 G2 g2 => pts_yes) (fun X2 c2 a2 b2 G2 g2 => e_add G2 (pW_S (e_sl G2 (pW_S (e_v G2 3 (by decide +kernel))) (po_no) (po_yes (pW_S (e_int))))) (pW_S (e_callT G2 (c_tuple G2) (by decide +kernel) (mgz (b2.trans hm) z_tuple) (by decide +kernel) (pW_F (e_lc G2 [("_law_value", 4)] (i_row G2.K (e_sl G2 (pW_S (e_v G2 3 (by decide +kernel))) (po_yes (pW_S (e_int))) (po_no))) (by decide +kernel) (by decide +kernel) (fun _ => rfl) (fun X3 c3 G3 _ f3 => g_nm G3 (.inr (by decide +kernel)) (by decide +kernel)) (fun X4 c4 a4 b4 G4 g4 => pts_yes) (fun X4 c4 a4 b4 G4 g4 => e_get G4 (pW_S (e_v G4 1 (by decide +kernel))) (pW_S (e_v G4 4 (by decide +kernel))) (e_v G4 4 (by decide +kernel)) ⟨rfl, rfl, rfl, rfl⟩))) rfl))))
 (s_cons (s_ret (e_callT G (c_tuple G) (by decide +kernel) (mgz hm z_tuple) (by decide +kernel) (pW_F (e_sset G (by decide +kernel) (mgz hm z_sorted) (by decide +kernel) (mgz hm z_set) (pW_S (e_v G 2 (by decide +kernel))) rfl rfl)) rfl))
 (s_nil))

abbrev sDraw : Stmt := topS 11
theorem scDraw : FnScope ["_law_deck_here", "_law_many", "_law_found", "_law_cell", "_law_mixed"] ["_law_deck_here", "_law_many"] (defScope sDraw) := ⟨rfl, rfl, rfl, by decide +kernel, rfl, by decide +kernel, by decide +kernel⟩
theorem ok_law_draw {P : Program} {w : World} {K : PySem.W.Frag} {mg : Str → Option Value} {base : Heap} {f : Addr} {fd : FuncData} {k : Nat} (F : Fun K "_law_draw" "_law_draw" sDraw f fd) (hx : mg "_law_draw" = some (.ref f)) (hb : Binds K fd ["_law_deck_here", "_law_many"] [])
    (mi : mg "int" = none) (ml : mg "len" = none) (ma : mg "abs" = none) : FOk P w K mg base (k + 1) ⟨"_law_draw", 2, drawM⟩ := by
  refine ⟨f, fd, _, hx, F.okX scDraw (fun vs H Q E h => h.1) (fun cdv A outer s0 H vs Q E hr h => ?_), F.kp, hb⟩
  obtain ⟨p, s, ns, i, l, j, m, e0, nps, hp, hs, hlen, hi, hl, hj, hj1, hm, hm2, fin⟩ := draw_end h
  subst e0
  refine ⟨_, pss_cons (ps_asg (pe_op op_add (pe_ix ix_list (pv 0) (pe_int) (fun _ _ => rfl)) (pe_int)) (pg_sub (pv 0) pe_int set_list)) (pss_cons (ps_if (pt_cmpR op_gt (pe_ix ix_list (pv 0) (pe_int) (fun _ _ => rfl)) (pe_int) (nomark _)) (pss_cons (ps_set (i := 2) scDraw.nd rfl (.inl rfl) (pe_op op_mod (pe_callTy call_int1 (by rfl) mi (by decide +kernel) (pa_cons (pe_ix ix_list (pv 0) (pe_int) (fun _ _ => rfl)) pa_nil)) (pv 1))) (pss_cons (ps_asg (pe_op op_fdiv (pe_ix ix_list (pv 0) (pe_int) (fun _ _ => rfl)) (pv 1)) (pg_sub (pv 0) pe_int set_list)) (pss_one (ps_ret (pv 2))))) pss_nil) (pss_cons (ps_set (i := 3) scDraw.nd rfl (.inl rfl) (pe_int)) (pss_cons (ps_if (pt_cmpR (op_neD (by have := hr.units; exact this)) (pe_ix ix_list (pv 0) (pe_int) (fun _ _ => rfl)) (pe_lst pa_nil) (nomark _)) (pss_one (ps_set (i := 3) scDraw.nd rfl (.inl rfl) (pe_ix ix_list (pe_ix ix_list (pv 0) (pe_int) (fun _ _ => rfl)) (pe_op op_mod (pe_callTy call_int1 (by rfl) mi (by decide +kernel) (pa_cons (pe_ix ix_list (pv 0) (pe_int) (fun _ _ => rfl)) pa_nil)) (pe_callB call_lenAll (by rfl) ml PySem.boot_len (pa_cons (pe_ix ix_list (pv 0) (pe_int) (fun _ _ => rfl)) pa_nil))) (fun _ _ => rfl)))) pss_nil) (pss_cons (ps_asg (pe_op op_add (pe_ix ix_list (pv 0) (pe_int) (fun _ _ => rfl)) (pe_int)) (pg_sub (pv 0) pe_int set_list)) (pss_cons (ps_if (PW.pt (pw_and (pt_cmpR op_ge (pe_callB call_abs (by rfl) ma (by decide +kernel) (pa_cons (pv 3) pa_nil)) (pe_op op_pow pe_int pe_int) (nomark _)) (pw_and1 (pt_cmpR op_le (pe_ix ix_list (pv 0) (pe_int) (fun _ _ => rfl)) (pe_callB call_lenAll (by rfl) ml PySem.boot_len (pa_cons (pe_ix ix_list (pv 0) (pe_int) (fun _ _ => rfl)) pa_nil)) (nomark _))))) (pss_cons (ps_asg (pe_op op_fdiv (pe_callB call_abs (by rfl) ma (by decide +kernel) (pa_cons (pv 3) pa_nil)) (pv 1)) (pg_sub (pv 0) pe_int set_list)) (pss_one (ps_ret (pe_op op_mod (pe_callTy call_int1 (by rfl) mi (by decide +kernel) (pa_cons (pe_callB call_abs (by rfl) ma (by decide +kernel) (pa_cons (pv 3) pa_nil)) pa_nil)) (pv 1))))) pss_nil) (pss_cons (ps_set (i := 4) scDraw.nd rfl (.inl rfl) (pe_op op_mod (pe_op op_pow (pe_callTy call_int1 (by rfl) mi (by decide +kernel) (pa_cons (pe_op op_add (pe_op op_mod (pe_callTy call_int1 (by rfl) mi (by decide +kernel) (pa_cons (pv 3) pa_nil)) (pe_int)) (pe_op op_mul (pe_int) (pe_ix ix_list (pv 0) (pe_int) (fun _ _ => rfl)))) pa_nil)) (pe_int)) (pe_int))) (pss_cons (ps_set (i := 4) scDraw.nd rfl (.inl rfl) (pe_op op_mod (pe_op op_pow (pe_callTy call_int1 (by rfl) mi (by decide +kernel) (pa_cons (pe_op op_add (pe_op op_mul (pv 4) (pe_op op_add (pe_op op_mul (pe_int) (pe_ix ix_list (pv 0) (pe_int) (fun _ _ => rfl))) (pe_int))) (pe_int)) pa_nil)) (pe_int)) (pe_int))) (pss_one (ps_ret (pe_op op_mod (pe_op op_fdiv (pv 4) (pe_int)) (pv 1))))))))))), ?_⟩
  -- the count
  refine ⟨.ref p, rfl, p, _, 3, .int j, rfl, rfl, SqL.of hp, rfl, j, 1, rfl, rfl, .ref p, rfl, p, _, 3, 3, rfl, rfl, hp, rfl, ?_⟩
  have h1 : (upd H p (HO.lst ([V.ref s, V.int i, V.int l, V.int j].set 3 (V.int (j + 1))))) p = some (.lst [.ref s, .int i, .int l, .int (j + 1)]) := upd_same
  have o1 : ∀ a o, a ≠ p → H a = some o → (upd H p (HO.lst ([V.ref s, V.int i, V.int l, V.int j].set 3 (V.int (j + 1))))) a = some o := fun a o z z2 => (upd_ne z).trans z2
  revert h1 o1
  generalize upd H p (HO.lst ([V.ref s, V.int i, V.int l, V.int j].set 3 (V.int (j + 1)))) = H1
  intro h1 o1
  have s1 := o1 s _ nps hs
  -- a rest
  refine ⟨.ref p, rfl, p, _, 2, .int l, rfl, rfl, SqL.of h1, rfl, l, 0, rfl, rfl, _, rfl, ite2 (fun e => ?_) (fun e => ?_)⟩
  · have e := of_decide_eq_true e
    refine ⟨.ref p, rfl, p, _, 2, .int l, rfl, rfl, SqL.of h1, rfl, .inl ⟨l, rfl, .int m, rfl, l, m, rfl, rfl, hm, ?_⟩⟩
    refine ⟨.ref p, rfl, p, _, 2, .int l, rfl, rfl, SqL.of h1, rfl, .int m, rfl, l, m, rfl, rfl, ⟨hm, hm2⟩, .ref p, rfl, p, _, 2, 2, rfl, rfl, h1, rfl, ?_⟩
    exact ⟨.int (l % m), rfl, fin _ i (l / m) (l % m) upd_same (fun a o z z2 => (upd_ne z).trans (o1 a o z z2)) hi (Int.ediv_nonneg (by omega) (by omega)) (Int.emod_nonneg _ (by omega)) (Int.emod_lt_of_pos _ hm)⟩
  -- the cell
  refine ⟨.ref p, rfl, p, _, 0, .ref s, rfl, rfl, SqL.of h1, rfl, Nat.zero_le _, fun t nt => ?_⟩
  have ntp : t ≠ p := fun z => by rw [z, h1] at nt; cases nt
  have nts : t ≠ s := fun z => by rw [z, s1] at nt; cases nt
  have h2 : (upd H1 t (HO.lst [])) p = some (.lst [.ref s, .int i, .int l, .int (j + 1)]) := (upd_ne ntp.symm).trans h1
  have o2 : (upd H1 t (HO.lst [])) s = some (.lst (ns.map V.int)) := (upd_ne nts.symm).trans s1
  have t2 : (upd H1 t (HO.lst [])) t = some (.lst []) := upd_same
  have oa : ∀ a o, a ≠ p → H a = some o → (upd H1 t (HO.lst [])) a = some o := fun a o z z2 => (upd_ne fun z3 => by have z4 := o1 a o z z2; rw [z3, nt] at z4; cases z4).trans (o1 a o z z2)
  revert h2 o2 t2 oa
  generalize upd H1 t (HO.lst []) = H2
  intro h2 o2 t2 oa
  refine ⟨.list (ns.map PyData.int), .list [], ints_dp o2, .lst (SqL.of t2) .nil, shaped_ints ns, by decide +kernel, _, rfl, ite2 (fun e => ?ca) (fun e => ?cb)⟩
  case' ca => (
    have hne : ns ≠ [] := fun z => by subst z; exact Bool.noConfusion e
    have hpos : 0 < (ns.length : Int) := by
      cases ns with
      | nil => exact absurd rfl hne
      | cons _ _ => simp only [List.length_cons]; omega
    obtain ⟨z, hz⟩ : ∃ z, atI (ns.map V.int) (i % (ns.length : Int)) = some (.int z) := draw_cell hi hpos
    refine ⟨.ref p, rfl, p, _, 0, .ref s, rfl, rfl, SqL.of h2, rfl, .ref p, rfl, p, _, 1, .int i, rfl, rfl, SqL.of h2, rfl, .inl ⟨i, rfl, .ref p, rfl, p, _, 0, .ref s, rfl, rfl, SqL.of h2, rfl, .inl ⟨.ref s, _, rfl, .inl ⟨_, SqL.of o2, rfl⟩, i, _, rfl, rfl, by rw [List.length_map]; exact hpos, s, _, _, _, rfl, rfl, SqL.of o2, by rw [List.length_map]; exact hz, ?_⟩⟩⟩)
  all_goals (
    refine ⟨.ref p, rfl, p, _, 1, .int i, rfl, rfl, SqL.of h2, rfl, i, 1, rfl, rfl, .ref p, rfl, p, _, 1, 1, rfl, rfl, h2, rfl, ?_⟩
    have h3 : (upd H2 p (HO.lst ([V.ref s, V.int i, V.int l, V.int (j + 1)].set 1 (V.int (i + 1))))) p = some (.lst [.ref s, .int (i + 1), .int l, .int (j + 1)]) := upd_same
    have o3 : ∀ a o, a ≠ p → H a = some o → (upd H2 p (HO.lst ([V.ref s, V.int i, V.int l, V.int (j + 1)].set 1 (V.int (i + 1))))) a = some o := fun a o z z2 => (upd_ne z).trans (oa a o z z2)
    revert h3 o3
    generalize upd H2 p (HO.lst ([V.ref s, V.int i, V.int l, V.int (j + 1)].set 1 (V.int (i + 1)))) = H3
    intro h3 o3
    have s3 := o3 s _ nps hs
    refine ⟨_, rfl, _, rfl, 10, 18, rfl, rfl, ⟨by decide, by decide, by decide⟩, _, _, rfl, rfl, _, rfl, ite2 (fun e1 => ?_) (fun e1 => ?_)⟩
    all_goals first
      | (refine ⟨.ref p, rfl, p, _, 1, .int (i + 1), rfl, rfl, SqL.of h3, rfl, .ref p, rfl, p, _, 0, .ref s, rfl, rfl, SqL.of h3, rfl, .inl ⟨.ref s, _, rfl, .inl ⟨_, SqL.of s3, rfl⟩, _, _, rfl, rfl, _, rfl, ite2 (fun e2 => ?_) (fun e2 => ?_)⟩⟩
         all_goals first
           | (refine ⟨_, rfl, _, rfl, .int m, rfl, _, m, rfl, rfl, ⟨hm, hm2⟩, .ref p, rfl, p, _, 2, 2, rfl, rfl, h3, rfl, ?_⟩
              refine ⟨_, rfl, _, rfl, .inl ⟨_, rfl, .int m, rfl, _, m, rfl, rfl, hm, ?_⟩⟩
              exact fin _ (i + 1) _ _ upd_same (fun a o z z2 => (upd_ne z).trans (o3 a o z z2)) (by omega) (Int.ediv_nonneg (by split <;> omega) (by omega)) (Int.emod_nonneg _ (by omega)) (Int.emod_lt_of_pos _ hm))
           | skip)
      | skip
    all_goals (
      refine ⟨_, rfl, .inl ⟨_, rfl, _, 2147483579, rfl, rfl, (show (0 : Int) < 2147483579 by decide), .ref p, rfl, p, _, 3, .int (j + 1), rfl, rfl, SqL.of h3, rfl, 73856093, j + 1, rfl, rfl, .inl ⟨by decide, by decide⟩, _, _, rfl, rfl, .inl ⟨_, rfl, _, 5, rfl, rfl, ⟨by decide, by decide, mix1 hj hj1⟩, _, 2147483629, rfl, rfl, (show (0 : Int) < 2147483629 by decide), ?_⟩⟩⟩
      refine ⟨_, rfl, .ref p, rfl, p, _, 3, .int (j + 1), rfl, rfl, SqL.of h3, rfl, 2, j + 1, rfl, rfl, .inl ⟨by decide, by decide⟩, _, 7, rfl, rfl, _, _, rfl, rfl, .inl (small_mod (by decide) (by decide)), _, 6151, rfl, rfl, .inl ⟨_, rfl, _, 3, rfl, rfl, ⟨by decide, by decide, mix2 hj hj1⟩, _, 2147483647, rfl, rfl, (show (0 : Int) < 2147483647 by decide), ?_⟩⟩
      refine ⟨_, rfl, _, 32, rfl, rfl, ⟨by decide, by decide⟩, .int m, rfl, _, m, rfl, rfl, hm, ?_⟩
      exact fin _ (i + 1) l _ h3 o3 (by omega) hl (Int.emod_nonneg _ (by omega)) (Int.emod_lt_of_pos _ hm)))

def d_law_one : DS := (seqS
 (retS (bin2 (vS 1) (callT drawM (consA (vS 0) (consA (un1 (vS 1) lenD) nilA))) ixD))
 skipS)
def m_law_one : MD := defM 2 d_law_one
abbrev s_law_one : Stmt := topS 12
theorem sc_law_one : FnScope ["_law_deck_here", "_law_items"] ["_law_deck_here", "_law_items"] (defScope s_law_one) := ⟨rfl, rfl, rfl, by decide +kernel, rfl, by decide +kernel, by decide +kernel⟩
theorem ok_law_one {P : Program} {w : World} {K : PySem.W.Frag} {mg : Str → Option Value} {base : Heap} {f : Addr} {fd : FuncData} {k : Nat} (F : Fun K "_law_one" "_law_one" s_law_one f fd) (hx : mg "_law_one" = some (.ref f)) (hb : Binds K fd ["_law_deck_here", "_law_items"] []) (h_law_draw : FOk P w K mg base k ⟨"_law_draw", 2, drawM⟩) (z_len : mg "len" = none) : FOk P w K mg base (k + 1) ⟨"_law_one", 2, m_law_one⟩ :=
  fok F sc_law_one hx hb rfl (by decide) fun X c hK hm G hf hp => s_cons (s_ret (e_ix G (pW_S (e_v G 1 (by decide +kernel))) (pW_S (e_def G (h_law_draw.at hK hm) (by decide +kernel) (pa_consS (e_v G 0 (by decide +kernel)) (pa_consS (e_callB G (c_len G) (by decide +kernel) (mgz hm z_len) (by decide +kernel) (pW_S (e_v G 1 (by decide +kernel))) rfl) (pa_nil') rfl) rfl) rfl rfl)) (fun _ _ => rfl)))
 (s_nil)

def d_law_word : DS := (seqS
 (asgS 1 (callT m_law_one (consA (vS 0) (consA (lstT (consA (kD (.int 1)) (consA (kD (.int 1)) (consA (kD (.int 2)) (consA (kD (.int 3)) (consA (kD (.int 8)) nilA)))))) nilA))))
 (seqS
 (retS (un1 (lcT (.nm 2) (rng1 (vS 1)) yesT (callT m_law_one (consA (vS 0) (consA (kD (.str "abcmyz")) nilA))) [2]) (joinD "")))
 skipS))
def m_law_word : MD := defM 3 d_law_word
abbrev s_law_word : Stmt := topS 13
theorem sc_law_word : FnScope ["_law_deck_here", "_law_size", "_law_k"] ["_law_deck_here"] (defScope s_law_word) := ⟨rfl, rfl, rfl, by decide +kernel, rfl, by decide +kernel, by decide +kernel⟩
theorem ok_law_word {P : Program} {w : World} {K : PySem.W.Frag} {mg : Str → Option Value} {base : Heap} {f : Addr} {fd : FuncData} {k : Nat} (F : Fun K "_law_word" "_law_word" s_law_word f fd) (hx : mg "_law_word" = some (.ref f)) (hb : Binds K fd ["_law_deck_here"] []) (h_law_one : FOk P w K mg base k ⟨"_law_one", 2, m_law_one⟩) (z_range : mg "range" = none) : FOk P w K mg base (k + 1) ⟨"_law_word", 1, m_law_word⟩ :=
  fok F sc_law_word hx hb rfl (by decide) fun X c hK hm G hf hp => s_cons (s_asg G hf (by decide +kernel) (e_def G (h_law_one.at hK hm) (by decide +kernel) (pa_consS (e_v G 0 (by decide +kernel)) (pa_consS (pS_F (pe_lst' (pa_consS (e_int) (pa_consS (e_int) (pa_consS (e_int) (pa_consS (e_int) (pa_consS (e_int) (pa_nil') rfl) rfl) rfl) rfl) rfl))) (pa_nil') rfl) rfl) rfl rfl) rfl)
 (s_cons (s_ret (e_join G (pW_F (e_lc G [("_law_k", 2)] (i_rng1 (G.gl (glB_of (by decide +kernel)).1) (mgzX G hm z_range) (pW_S (e_v G 1 (by decide +kernel))) rfl) (by decide +kernel) (by decide +kernel) (fun _ => rfl) (fun X1 c1 G1 _ f1 => g_nm G1 (.inr (by decide +kernel)) (by decide +kernel)) (fun X2 c2 a2 b2 G2 g2 => pts_yes) (fun X2 c2 a2 b2 G2 g2 => e_def G2 (h_law_one.at (a2.trans hK) (b2.trans hm)) (by decide +kernel) (pa_consS (e_v G2 0 (by decide +kernel)) (pa_consS (e_str (by decide +kernel)) (pa_nil') rfl) rfl) rfl rfl))) rfl rfl rfl))
 (s_nil))

def d_law_pool : DS := (seqS
 (asgO 2 (lstT nilA))
 (seqS
 (whS (bin2 (un1 (vW 2) lenD) (vS 1) ltD) [3] (seqS
  (asgS 3 (callT m_law_word (consA (vS 0) nilA)))
  (seqS
  (whS (bin2 (vS 3) (vW 2) inD) [] (seqS
   (asgS 3 (ifT (bin2 (un1 (vS 3) lenD) (kD (.int 8)) eqD) (bin2 (sl3 (vS 3) (intPart (kD (.int 1))) noPart slD) (kD (.str "q")) addD) (bin2 (vS 3) (kD (.str "q")) addD)))
   skipS))
  (seqS
  (appS 2 (vS 3))
  skipS))))
 (seqS (frzS 2) (seqS
 (retS (vS 2))
 skipS))))
def m_law_pool : MD := defM 4 d_law_pool
abbrev s_law_pool : Stmt := topS 14
theorem sc_law_pool : FnScope ["_law_deck_here", "_law_many", "_law_found", "_law_word_here"] ["_law_deck_here", "_law_many"] (defScope s_law_pool) := ⟨rfl, rfl, rfl, by decide +kernel, rfl, by decide +kernel, by decide +kernel⟩
theorem ok_law_pool {P : Program} {w : World} {K : PySem.W.Frag} {mg : Str → Option Value} {base : Heap} {f : Addr} {fd : FuncData} {k : Nat} (F : Fun K "_law_pool" "_law_pool" s_law_pool f fd) (hx : mg "_law_pool" = some (.ref f)) (hb : Binds K fd ["_law_deck_here", "_law_many"] []) (h_law_word : FOk P w K mg base k ⟨"_law_word", 1, m_law_word⟩) (z_len : mg "len" = none) : FOk P w K mg base (k + 1) ⟨"_law_pool", 2, m_law_pool⟩ :=
  fok F sc_law_pool hx hb rfl (by decide) fun X c hK hm G hf hp => s_cons (s_asgO G hf (by decide +kernel) (pe_lst' (pa_nil')) rfl)
 (s_cons (s_while (ks := [3]) hp (t_cmp (x_lt G) (pW_S (e_callB G (c_len G) (by decide +kernel) (mgz hm z_len) (by decide +kernel) (e_w G 2 (by decide +kernel)) rfl)) (pW_S (e_v G 1 (by decide +kernel))) rfl) (s_cons (s_asg G hf (by decide +kernel) (e_def G (h_law_word.at hK hm) (by decide +kernel) (pa_consS (e_v G 0 (by decide +kernel)) (pa_nil') rfl) rfl rfl) rfl)
  (s_cons (s_while (ks := []) hp (t_cmp (x_in G) (pW_S (e_v G 3 (by decide +kernel))) (e_w G 2 (by decide +kernel)) rfl) (s_cons (s_asg G hf (by decide +kernel) (pe_if' (t_cmp (x_eq G) (pW_S (e_callB G (c_len G) (by decide +kernel) (mgz hm z_len) (by decide +kernel) (pW_S (e_v G 3 (by decide +kernel))) rfl)) (pW_S (e_int)) rfl) (e_add G (pW_S (e_sl G (pW_S (e_v G 3 (by decide +kernel))) (po_yes (pW_S (e_int))) (po_no))) (pW_S (e_str (by decide +kernel)))) (e_add G (pW_S (e_v G 3 (by decide +kernel))) (pW_S (e_str (by decide +kernel))))) rfl)
   (s_nil)))
  (s_cons (s_app G (by decide +kernel) (e_v G 3 (by decide +kernel)) rfl rfl rfl)
  (s_nil)))))
 (s_frz (s_cons (s_ret (e_v G 2 (by decide +kernel)))
 (s_nil))))

def d_law_kinds : DS := (seqS
 (asgS 1 (callT m_law_pool (consA (vS 0) (consA (bin2 (kD (.int 2)) (callT drawM (consA (vS 0) (consA (kD (.int 2)) nilA))) addD) nilA))))
 (seqS
 (retS (lcT (.nm 2) (rowI (vS 1)) yesT (tupT (consA (vS 2) (consA (callT m_law_one (consA (vS 0) (consA (lstT (consA (kD (.int 1)) (consA (kD (.int 2)) (consA (kD (.int 2)) (consA (kD (.int 3)) (consA (kD (.int 4)) nilA)))))) nilA))) nilA))) [2]))
 skipS))
def m_law_kinds : MD := defM 3 d_law_kinds
abbrev s_law_kinds : Stmt := topS 16
theorem sc_law_kinds : FnScope ["_law_deck_here", "_law_row", "_law_name"] ["_law_deck_here"] (defScope s_law_kinds) := ⟨rfl, rfl, rfl, by decide +kernel, rfl, by decide +kernel, by decide +kernel⟩
theorem ok_law_kinds {P : Program} {w : World} {K : PySem.W.Frag} {mg : Str → Option Value} {base : Heap} {f : Addr} {fd : FuncData} {k : Nat} (F : Fun K "_law_kinds" "_law_kinds" s_law_kinds f fd) (hx : mg "_law_kinds" = some (.ref f)) (hb : Binds K fd ["_law_deck_here"] []) (h_law_pool : FOk P w K mg base k ⟨"_law_pool", 2, m_law_pool⟩) (h_law_draw : FOk P w K mg base k ⟨"_law_draw", 2, drawM⟩) (h_law_one : FOk P w K mg base k ⟨"_law_one", 2, m_law_one⟩) : FOk P w K mg base (k + 1) ⟨"_law_kinds", 1, m_law_kinds⟩ :=
  fok F sc_law_kinds hx hb rfl (by decide) fun X c hK hm G hf hp => s_cons (s_asg G hf (by decide +kernel) (e_def G (h_law_pool.at hK hm) (by decide +kernel) (pa_consS (e_v G 0 (by decide +kernel)) (pa_consS (e_add G (pW_S (e_int)) (pW_S (e_def G (h_law_draw.at hK hm) (by decide +kernel) (pa_consS (e_v G 0 (by decide +kernel)) (pa_consS (e_int) (pa_nil') rfl) rfl) rfl rfl))) (pa_nil') rfl) rfl) rfl rfl) rfl)
 (s_cons (s_ret (pS_F (e_lc G [("_law_name", 2)] (i_row G.K (e_v G 1 (by decide +kernel))) (by decide +kernel) (by decide +kernel) (fun _ => rfl) (fun X1 c1 G1 _ f1 => g_nm G1 (.inr (by decide +kernel)) (by decide +kernel)) (fun X2 c2 a2 b2 G2 g2 => pts_yes) (fun X2 c2 a2 b2 G2 g2 => pe_tup' (pa_consS (e_v G2 2 (by decide +kernel)) (pa_consS (e_def G2 (h_law_one.at (a2.trans hK) (b2.trans hm)) (by decide +kernel) (pa_consS (e_v G2 0 (by decide +kernel)) (pa_consS (pS_F (pe_lst' (pa_consS (e_int) (pa_consS (e_int) (pa_consS (e_int) (pa_consS (e_int) (pa_consS (e_int) (pa_nil') rfl) rfl) rfl) rfl) rfl))) (pa_nil') rfl) rfl) rfl rfl) (pa_nil') rfl) rfl)))))
 (s_nil))

def d_law_unknowns : DS := (seqS
 (par2S 2 true (lstT nilA) 3 true (lstT (consA (kD (.str "?1")) (consA (kD (.str "?2")) (consA (kD (.str "?3")) (consA (kD (.str "?9")) (consA (kD (.str "?10")) (consA (kD (.str "?21")) (consA (kD (.str "?500")) (consA (kD (.str "?99999")) nilA))))))))))
 (seqS
 (forS (.nm 4) [4] (rng1 (vS 1)) (seqS
  (apopS 2 3 (callT drawM (consA (vS 0) (consA (un1 (vW 3) lenD) nilA))))
  skipS))
 (seqS (frzS 2) (seqS
 (retS (vS 2))
 skipS))))
def m_law_unknowns : MD := defM 5 d_law_unknowns
abbrev s_law_unknowns : Stmt := topS 15
theorem sc_law_unknowns : FnScope ["_law_deck_here", "_law_many", "_law_found", "_law_some", "_law_k"] ["_law_deck_here", "_law_many"] (defScope s_law_unknowns) := ⟨rfl, rfl, rfl, by decide +kernel, rfl, by decide +kernel, by decide +kernel⟩
theorem ok_law_unknowns {P : Program} {w : World} {K : PySem.W.Frag} {mg : Str → Option Value} {base : Heap} {f : Addr} {fd : FuncData} {k : Nat} (F : Fun K "_law_unknowns" "_law_unknowns" s_law_unknowns f fd) (hx : mg "_law_unknowns" = some (.ref f)) (hb : Binds K fd ["_law_deck_here", "_law_many"] []) (h_law_draw : FOk P w K mg base k ⟨"_law_draw", 2, drawM⟩) (z_range : mg "range" = none) (z_len : mg "len" = none) : FOk P w K mg base (k + 1) ⟨"_law_unknowns", 2, m_law_unknowns⟩ :=
  fok F sc_law_unknowns hx hb rfl (by decide) fun X c hK hm G hf hp => s_cons (s_par2 G (by decide +kernel) (by decide +kernel) (by decide +kernel) (by decide +kernel) (by decide +kernel) (pe_lst' (pa_nil')) (fun gh1_0 hid1_0 Gp1_1 => pe_lst' (pa_consS (e_str (by decide +kernel)) (pa_consS (e_str (by decide +kernel)) (pa_consS (e_str (by decide +kernel)) (pa_consS (e_str (by decide +kernel)) (pa_consS (e_str (by decide +kernel)) (pa_consS (e_str (by decide +kernel)) (pa_consS (e_str (by decide +kernel)) (pa_consS (e_str (by decide +kernel)) (pa_nil') rfl) rfl) rfl) rfl) rfl) rfl) rfl) rfl)) rfl rfl (sw_par2 G (by decide +kernel)) rfl)
 (s_cons (s_forG G hp [4] (i_rng1 (G.gl (glB_of (by decide +kernel)).1) (mgzX G hm z_range) (pW_S (e_v G 1 (by decide +kernel))) rfl) (g_nm G (.inl (hf.all _)) (by decide +kernel)) (fun _ => rfl) (fun gh2 G2 => s_cons (s_apop G2 (by decide +kernel) (by decide +kernel) (by decide +kernel) (pW_S (e_def G2 (h_law_draw.at hK hm) (by decide +kernel) (pa_consS (e_v G2 0 (by decide +kernel)) (pa_consS (e_callB G2 (c_len G2) (by decide +kernel) (mgz hm z_len) (by decide +kernel) (e_w G2 3 (by decide +kernel)) rfl) (pa_nil') rfl) rfl) rfl rfl)) rfl rfl rfl rfl rfl rfl)
  (s_nil)))
 (s_frz (s_cons (s_ret (e_v G 2 (by decide +kernel)))
 (s_nil))))

def d_law_store : DS := (seqS
 (asgO 4 (lstT nilA))
 (seqS
 (forS (.nm 5) [5, 6, 7, 8] (rng1 (callT drawM (consA (vS 0) (consA (bin2 (vS 3) (kD (.int 1)) addD) nilA)))) (seqS
  (unpS (.tp [6, 7]) (callT m_law_one (consA (vS 0) (consA (vS 1) nilA))))
  (seqS
  (appS 4 (bin2 (tupT (consA (vS 6) nilA)) (un1 (lcT (.nm 8) (rng1 (vS 7)) yesT (callT m_law_one (consA (vS 0) (consA (vS 2) nilA))) [8]) tupleD) addD))
  skipS)))
 (seqS (frzS 4) (seqS
 (retS (un1 (un1 (vW 4) ssetD) tupleD))
 skipS))))
def m_law_store : MD := defM 9 d_law_store
abbrev s_law_store : Stmt := topS 17
theorem sc_law_store : FnScope ["_law_deck_here", "_law_kinds_here", "_law_values", "_law_many", "_law_row", "_law_k", "_law_name", "_law_width", "_law_at"] ["_law_deck_here", "_law_kinds_here", "_law_values", "_law_many"] (defScope s_law_store) := ⟨rfl, rfl, rfl, by decide +kernel, rfl, by decide +kernel, by decide +kernel⟩
theorem ok_law_store {P : Program} {w : World} {K : PySem.W.Frag} {mg : Str → Option Value} {base : Heap} {f : Addr} {fd : FuncData} {k : Nat} (F : Fun K "_law_store" "_law_store" s_law_store f fd) (hx : mg "_law_store" = some (.ref f)) (hb : Binds K fd ["_law_deck_here", "_law_kinds_here", "_law_values", "_law_many"] []) (h_law_draw : FOk P w K mg base k ⟨"_law_draw", 2, drawM⟩) (h_law_one : FOk P w K mg base k ⟨"_law_one", 2, m_law_one⟩) (z_range : mg "range" = none) (z_tuple : mg "tuple" = none) (z_sorted : mg "sorted" = none) (z_set : mg "set" = none) : FOk P w K mg base (k + 1) ⟨"_law_store", 4, m_law_store⟩ :=
  fok F sc_law_store hx hb rfl (by decide) fun X c hK hm G hf hp => s_cons (s_asgO G hf (by decide +kernel) (pe_lst' (pa_nil')) rfl)
 (s_cons (s_forG G hp [5, 6, 7, 8] (i_rng1 (G.gl (glB_of (by decide +kernel)).1) (mgzX G hm z_range) (pW_S (e_def G (h_law_draw.at hK hm) (by decide +kernel) (pa_consS (e_v G 0 (by decide +kernel)) (pa_consS (e_add G (pW_S (e_v G 3 (by decide +kernel))) (pW_S (e_int))) (pa_nil') rfl) rfl) rfl rfl)) rfl) (g_nm G (.inl (hf.all _)) (by decide +kernel)) (fun _ => rfl) (fun gh1 G1 => s_cons (s_unp G1 (e_def G1 (h_law_one.at hK hm) (by decide +kernel) (pa_consS (e_v G1 0 (by decide +kernel)) (pa_consS (e_v G1 1 (by decide +kernel)) (pa_nil') rfl) rfl) rfl rfl) (g_tp G1 (gs_cons G1 (.inl (hf.all _)) (by decide +kernel) (gs_cons G1 (.inl (hf.all _)) (by decide +kernel) (gs_nil) rfl) rfl) rfl rfl) rfl rfl rfl)
  (s_cons (s_app G1 (by decide +kernel) (e_add G1 (pW_S (pe_tup' (pa_consS (e_v G1 6 (by decide +kernel)) (pa_nil') rfl))) (pW_S (e_callT G1 (c_tuple G1) (by decide +kernel) (mgz hm z_tuple) (by decide +kernel) (pW_F (e_lc G1 [("_law_at", 8)] (i_rng1 (G1.gl (glB_of (by decide +kernel)).1) (mgzX G1 hm z_range) (pW_S (e_v G1 7 (by decide +kernel))) rfl) (by decide +kernel) (by decide +kernel) (fun _ => rfl) (fun X2 c2 G2 _ f2 => g_nm G2 (.inr (by decide +kernel)) (by decide +kernel)) (fun X3 c3 a3 b3 G3 g3 => pts_yes) (fun X3 c3 a3 b3 G3 g3 => e_def G3 (h_law_one.at (a3.trans hK) (b3.trans hm)) (by decide +kernel) (pa_consS (e_v G3 0 (by decide +kernel)) (pa_consS (e_v G3 2 (by decide +kernel)) (pa_nil') rfl) rfl) rfl rfl))) rfl))) rfl rfl rfl)
  (s_nil))))
 (s_frz (s_cons (s_ret (e_callT G (c_tuple G) (by decide +kernel) (mgz hm z_tuple) (by decide +kernel) (pW_F (e_sset G (by decide +kernel) (mgz hm z_sorted) (by decide +kernel) (mgz hm z_set) (e_w G 4 (by decide +kernel)) rfl rfl)) rfl))
 (s_nil))))

def d_law_names : DS := (seqS
 (asgO 1 (lstT nilA))
 (seqS
 (forS (.nm 2) [2, 3] (rowI (vS 0)) (seqS
  (extS 1 (lcT (.nm 3) (rowI (sl3 (vS 2) (intPart (kD (.int 1))) noPart slD)) (bin2 (bin2 (vS 3) (kD (.int 0)) ixD) (kD (.str "?")) eqD) (vS 3) [3]))
  skipS))
 (seqS (frzS 1) (seqS
 (retS (un1 (un1 (vW 1) ssetD) tupleD))
 skipS))))
def m_law_names : MD := defM 4 d_law_names
abbrev s_law_names : Stmt := topS 18
theorem sc_law_names : FnScope ["_law_store_here", "_law_row", "_law_fact", "_law_value"] ["_law_store_here"] (defScope s_law_names) := ⟨rfl, rfl, rfl, by decide +kernel, rfl, by decide +kernel, by decide +kernel⟩
theorem ok_law_names {P : Program} {w : World} {K : PySem.W.Frag} {mg : Str → Option Value} {base : Heap} {f : Addr} {fd : FuncData} {k : Nat} (F : Fun K "_law_names" "_law_names" s_law_names f fd) (hx : mg "_law_names" = some (.ref f)) (hb : Binds K fd ["_law_store_here"] []) (z_tuple : mg "tuple" = none) (z_sorted : mg "sorted" = none) (z_set : mg "set" = none) : FOk P w K mg base (k + 1) ⟨"_law_names", 1, m_law_names⟩ :=
  fok F sc_law_names hx hb rfl (by decide) fun X c hK hm G hf hp => s_cons (s_asgO G hf (by decide +kernel) (pe_lst' (pa_nil')) rfl)
 (s_cons (s_forG G hp [2, 3] (i_row G.K (e_v G 0 (by decide +kernel))) (g_nm G (.inl (hf.all _)) (by decide +kernel)) (fun _ => rfl) (fun gh1 G1 => s_cons (s_ext G1 (by decide +kernel) (pW_F (e_lc G1 [("_law_value", 3)] (i_row G1.K (e_sl G1 (pW_S (e_v G1 2 (by decide +kernel))) (po_yes (pW_S (e_int))) (po_no))) (by decide +kernel) (by decide +kernel) (fun _ => rfl) (fun X2 c2 G2 _ f2 => g_nm G2 (.inr (by decide +kernel)) (by decide +kernel)) (fun X3 c3 a3 b3 G3 g3 => t_ifs1 (t_cmp (x_eq G3) (pW_S (e_ix G3 (pW_S (e_v G3 3 (by decide +kernel))) (pW_S (e_int)) (fun _ _ => rfl))) (pW_S (e_str (by decide +kernel))) rfl)) (fun X3 c3 a3 b3 G3 g3 => e_v G3 3 (by decide +kernel)))) rfl rfl rfl)
  (s_nil)))
 (s_frz (s_cons (s_ret (e_callT G (c_tuple G) (by decide +kernel) (mgz hm z_tuple) (by decide +kernel) (pW_F (e_sset G (by decide +kernel) (mgz hm z_sorted) (by decide +kernel) (mgz hm z_set) (e_w G 1 (by decide +kernel)) rfl rfl)) rfl))
 (s_nil))))

def d_law_orders : DS := (seqS
 (asgS 1 (lstT (consA (tupT nilA) nilA)))
 (seqS
 (forS (.nm 2) [2, 3, 4, 5] (rng1 (un1 (vS 0) lenD)) (seqS
  (asgS 3 (lstT nilA))
  (seqS
  (forS (.nm 4) [4, 5] (rowI (vS 1)) (seqS
   (asgS 3 (bin2 (vS 3) (lcT (.nm 5) (rowI (vS 0)) (bin2 (vS 5) (vS 4) notInD) (bin2 (vS 4) (tupT (consA (vS 5) nilA)) addD) [5]) addD))
   skipS))
  (seqS
  (asgS 1 (vS 3))
  skipS))))
 (seqS
 (retS (vS 1))
 skipS)))
def m_law_orders : MD := defM 6 d_law_orders
abbrev s_law_orders : Stmt := topS 20
theorem sc_law_orders : FnScope ["_law_items", "_law_found", "_law_k", "_law_later", "_law_some", "_law_item"] ["_law_items"] (defScope s_law_orders) := ⟨rfl, rfl, rfl, by decide +kernel, rfl, by decide +kernel, by decide +kernel⟩
theorem ok_law_orders {P : Program} {w : World} {K : PySem.W.Frag} {mg : Str → Option Value} {base : Heap} {f : Addr} {fd : FuncData} {k : Nat} (F : Fun K "_law_orders" "_law_orders" s_law_orders f fd) (hx : mg "_law_orders" = some (.ref f)) (hb : Binds K fd ["_law_items"] []) (z_range : mg "range" = none) (z_len : mg "len" = none) : FOk P w K mg base (k + 1) ⟨"_law_orders", 1, m_law_orders⟩ :=
  fok F sc_law_orders hx hb rfl (by decide) fun X c hK hm G hf hp => s_cons (s_asg G hf (by decide +kernel) (pS_F (pe_lst' (pa_consS (pe_tup' (pa_nil')) (pa_nil') rfl))) rfl)
 (s_cons (s_forG G hp [2, 3, 4, 5] (i_rng1 (G.gl (glB_of (by decide +kernel)).1) (mgzX G hm z_range) (pW_S (e_callB G (c_len G) (by decide +kernel) (mgz hm z_len) (by decide +kernel) (pW_S (e_v G 0 (by decide +kernel))) rfl)) rfl) (g_nm G (.inl (hf.all _)) (by decide +kernel)) (fun _ => rfl) (fun gh1 G1 => s_cons (s_asg G1 hf (by decide +kernel) (pS_F (pe_lst' (pa_nil'))) rfl)
  (s_cons (s_forG G1 hp [4, 5] (i_row G1.K (e_v G1 1 (by decide +kernel))) (g_nm G1 (.inl (hf.all _)) (by decide +kernel)) (fun _ => rfl) (fun gh2 G2 => s_cons (s_asg G2 hf (by decide +kernel) (e_add G2 (pW_S (e_v G2 3 (by decide +kernel))) (pW_F (e_lc G2 [("_law_item", 5)] (i_row G2.K (e_v G2 0 (by decide +kernel))) (by decide +kernel) (by decide +kernel) (fun _ => rfl) (fun X3 c3 G3 _ f3 => g_nm G3 (.inr (by decide +kernel)) (by decide +kernel)) (fun X4 c4 a4 b4 G4 g4 => t_ifs1 (t_cmp (x_notin G4) (pW_S (e_v G4 5 (by decide +kernel))) (pW_S (e_v G4 4 (by decide +kernel))) rfl)) (fun X4 c4 a4 b4 G4 g4 => e_add G4 (pW_S (e_v G4 4 (by decide +kernel))) (pW_S (pe_tup' (pa_consS (e_v G4 5 (by decide +kernel)) (pa_nil') rfl))))))) rfl)
   (s_nil)))
  (s_cons (s_asg G1 hf (by decide +kernel) (e_v G1 3 (by decide +kernel)) rfl)
  (s_nil)))))
 (s_cons (s_ret (e_v G 1 (by decide +kernel)))
 (s_nil)))

def d_law_plain : DS := (seqS
 (asgS 1 (callT m_law_names (consA (vS 0) nilA)))
 (seqS
 (asgS 2 (lcT (.nm 3) (rng1 (un1 (vS 1) lenD)) yesT (bin2 (kD (.str "?")) (un1 (bin2 (vS 3) (kD (.int 1)) addD) strD) addD) [3]))
 (seqS
 (retS (un1 (lcT (.nm 4) (rowI (callT m_law_orders (consA (vS 1) nilA))) yesT (callT m_law_put (consA (vS 0) (consA (un1 (bin2 (vS 4) (vS 2) lzipD) dictD) nilA))) [4]) minDD))
 skipS)))
def m_law_plain : MD := defM 5 d_law_plain
abbrev s_law_plain : Stmt := topS 21
theorem sc_law_plain : FnScope ["_law_store_here", "_law_some", "_law_new", "_law_k", "_law_order"] ["_law_store_here"] (defScope s_law_plain) := ⟨rfl, rfl, rfl, by decide +kernel, rfl, by decide +kernel, by decide +kernel⟩
theorem ok_law_plain {P : Program} {w : World} {K : PySem.W.Frag} {mg : Str → Option Value} {base : Heap} {f : Addr} {fd : FuncData} {k : Nat} (F : Fun K "_law_plain" "_law_plain" s_law_plain f fd) (hx : mg "_law_plain" = some (.ref f)) (hb : Binds K fd ["_law_store_here"] []) (h_law_names : FOk P w K mg base k ⟨"_law_names", 1, m_law_names⟩) (h_law_orders : FOk P w K mg base k ⟨"_law_orders", 1, m_law_orders⟩) (h_law_put : FOk P w K mg base k ⟨"_law_put", 2, m_law_put⟩) (z_range : mg "range" = none) (z_len : mg "len" = none) (z_str : mg "str" = none) (z_min : mg "min" = none) (z_dict : mg "dict" = none) (z_list : mg "list" = none) (z_zip : mg "zip" = none) : FOk P w K mg base (k + 1) ⟨"_law_plain", 1, m_law_plain⟩ :=
  fok F sc_law_plain hx hb rfl (by decide) fun X c hK hm G hf hp => s_cons (s_asg G hf (by decide +kernel) (e_def G (h_law_names.at hK hm) (by decide +kernel) (pa_consS (e_v G 0 (by decide +kernel)) (pa_nil') rfl) rfl rfl) rfl)
 (s_cons (s_asg G hf (by decide +kernel) (pS_F (e_lc G [("_law_k", 3)] (i_rng1 (G.gl (glB_of (by decide +kernel)).1) (mgzX G hm z_range) (pW_S (e_callB G (c_len G) (by decide +kernel) (mgz hm z_len) (by decide +kernel) (pW_S (e_v G 1 (by decide +kernel))) rfl)) rfl) (by decide +kernel) (by decide +kernel) (fun _ => rfl) (fun X1 c1 G1 _ f1 => g_nm G1 (.inr (by decide +kernel)) (by decide +kernel)) (fun X2 c2 a2 b2 G2 g2 => pts_yes) (fun X2 c2 a2 b2 G2 g2 => e_add G2 (pW_S (e_str (by decide +kernel))) (pW_S (e_callT G2 (c_str G2) (by decide +kernel) (mgz (b2.trans hm) z_str) (by decide +kernel) (pW_S (e_add G2 (pW_S (e_v G2 3 (by decide +kernel))) (pW_S (e_int)))) rfl))))) (sw_no G (by decide +kernel)))
 (s_cons (s_ret (e_callB G (c_min G) (by decide +kernel) (mgz hm z_min) (by decide +kernel) (pW_F (e_lc G [("_law_order", 4)] (i_row G.K (e_def G (h_law_orders.at hK hm) (by decide +kernel) (pa_consS (e_v G 1 (by decide +kernel)) (pa_nil') rfl) rfl rfl)) (by decide +kernel) (by decide +kernel) (fun _ => rfl) (fun X3 c3 G3 _ f3 => g_nm G3 (.inr (by decide +kernel)) (by decide +kernel)) (fun X4 c4 a4 b4 G4 g4 => pts_yes) (fun X4 c4 a4 b4 G4 g4 => e_def G4 (h_law_put.at (a4.trans hK) (b4.trans hm)) (by decide +kernel) (pa_consS (e_v G4 0 (by decide +kernel)) (pa_consS (pS_F (e_callT G4 (c_dict G4) (by decide +kernel) (mgz (b4.trans hm) z_dict) (by decide +kernel) (pW_F (e_lzip G4 (by decide +kernel) (mgz (b4.trans hm) z_list) (by decide +kernel) (mgz (b4.trans hm) z_zip) (pW_S (e_v G4 4 (by decide +kernel))) (pW_S (e_v G4 2 (by decide +kernel))) rfl rfl rfl rfl)) rfl)) (pa_nil') rfl) rfl) rfl rfl))) rfl))
 (s_nil)))

def d_unknowns : DS := (seqS
 (asgO 1 (lstT nilA))
 (seqS
 (forS (.nm 2) [2, 3] (rowI (vS 0)) (seqS
  (extS 1 (lcT (.nm 3) (rowI (sl3 (vS 2) (intPart (kD (.int 1))) noPart slD)) (bin2 (bin2 (vS 3) (kD (.int 0)) ixD) (kD (.str "?")) eqD) (vS 3) [3]))
  skipS))
 (seqS (frzS 1) (seqS
 (retS (un1 (un1 (vW 1) ssetD) tupleD))
 skipS))))
def m_unknowns : MD := defM 4 d_unknowns
abbrev s_unknowns : Stmt := topS 2
theorem sc_unknowns : FnScope ["store", "found", "fact", "value"] ["store"] (defScope s_unknowns) := ⟨rfl, rfl, rfl, by decide +kernel, rfl, by decide +kernel, by decide +kernel⟩
theorem ok_unknowns {P : Program} {w : World} {K : PySem.W.Frag} {mg : Str → Option Value} {base : Heap} {f : Addr} {fd : FuncData} {k : Nat} (F : Fun K "unknowns" "unknowns" s_unknowns f fd) (hx : mg "unknowns" = some (.ref f)) (hb : Binds K fd ["store"] []) (z_tuple : mg "tuple" = none) (z_sorted : mg "sorted" = none) (z_set : mg "set" = none) : FOk P w K mg base (k + 1) ⟨"unknowns", 1, m_unknowns⟩ :=
  fok F sc_unknowns hx hb rfl (by decide) fun X c hK hm G hf hp => s_cons (s_asgO G hf (by decide +kernel) (pe_lst' (pa_nil')) rfl)
 (s_cons (s_forG G hp [2, 3] (i_row G.K (e_v G 0 (by decide +kernel))) (g_nm G (.inl (hf.all _)) (by decide +kernel)) (fun _ => rfl) (fun gh1 G1 => s_cons (s_ext G1 (by decide +kernel) (pW_F (e_lc G1 [("value", 3)] (i_row G1.K (e_sl G1 (pW_S (e_v G1 2 (by decide +kernel))) (po_yes (pW_S (e_int))) (po_no))) (by decide +kernel) (by decide +kernel) (fun _ => rfl) (fun X2 c2 G2 _ f2 => g_nm G2 (.inr (by decide +kernel)) (by decide +kernel)) (fun X3 c3 a3 b3 G3 g3 => t_ifs1 (t_cmp (x_eq G3) (pW_S (e_ix G3 (pW_S (e_v G3 3 (by decide +kernel))) (pW_S (e_int)) (fun _ _ => rfl))) (pW_S (e_str (by decide +kernel))) rfl)) (fun X3 c3 a3 b3 G3 g3 => e_v G3 3 (by decide +kernel)))) rfl rfl rfl)
  (s_nil)))
 (s_frz (s_cons (s_ret (e_callT G (c_tuple G) (by decide +kernel) (mgz hm z_tuple) (by decide +kernel) (pW_F (e_sset G (by decide +kernel) (mgz hm z_sorted) (by decide +kernel) (mgz hm z_set) (e_w G 1 (by decide +kernel)) rfl rfl)) rfl))
 (s_nil))))

def d_store_of : DS := (seqS
 (retS (un1 (un1 (vS 0) ssetD) tupleD))
 skipS)
def m_store_of : MD := defM 1 d_store_of
abbrev s_store_of : Stmt := topS 1
theorem sc_store_of : FnScope ["facts"] ["facts"] (defScope s_store_of) := ⟨rfl, rfl, rfl, by decide +kernel, rfl, by decide +kernel, by decide +kernel⟩
theorem ok_store_of {P : Program} {w : World} {K : PySem.W.Frag} {mg : Str → Option Value} {base : Heap} {f : Addr} {fd : FuncData} {k : Nat} (F : Fun K "store_of" "store_of" s_store_of f fd) (hx : mg "store_of" = some (.ref f)) (hb : Binds K fd ["facts"] []) (z_tuple : mg "tuple" = none) (z_sorted : mg "sorted" = none) (z_set : mg "set" = none) : FOk P w K mg base (k + 1) ⟨"store_of", 1, m_store_of⟩ :=
  fok F sc_store_of hx hb rfl (by decide) fun X c hK hm G hf hp => s_cons (s_ret (e_callT G (c_tuple G) (by decide +kernel) (mgz hm z_tuple) (by decide +kernel) (pW_F (e_sset G (by decide +kernel) (mgz hm z_sorted) (by decide +kernel) (mgz hm z_set) (pW_S (e_v G 0 (by decide +kernel))) rfl rfl)) rfl))
 (s_nil)

def d_changed : DS := (seqS
 (retS (bin2 (sl3 (vS 0) noPart (intPart (kD (.int 1))) slD) (un1 (lcT (.nm 2) (rowI (sl3 (vS 0) (intPart (kD (.int 1))) noPart slD)) yesT (getT (vS 1) (vS 2) (vS 2)) [2]) tupleD) addD))
 skipS)
def m_changed : MD := defM 3 d_changed
abbrev s_changed : Stmt := topS 3
theorem sc_changed : FnScope ["fact", "names", "value"] ["fact", "names"] (defScope s_changed) := ⟨rfl, rfl, rfl, by decide +kernel, rfl, by decide +kernel, by decide +kernel⟩
theorem ok_changed {P : Program} {w : World} {K : PySem.W.Frag} {mg : Str → Option Value} {base : Heap} {f : Addr} {fd : FuncData} {k : Nat} (F : Fun K "changed" "changed" s_changed f fd) (hx : mg "changed" = some (.ref f)) (hb : Binds K fd ["fact", "names"] []) (z_tuple : mg "tuple" = none) : FOk P w K mg base (k + 1) ⟨"changed", 2, m_changed⟩ :=
  fok F sc_changed hx hb rfl (by decide) fun X c hK hm G hf hp => s_cons (s_ret (e_add G (pW_S (e_sl G (pW_S (e_v G 0 (by decide +kernel))) (po_no) (po_yes (pW_S (e_int))))) (pW_S (e_callT G (c_tuple G) (by decide +kernel) (mgz hm z_tuple) (by decide +kernel) (pW_F (e_lc G [("value", 2)] (i_row G.K (e_sl G (pW_S (e_v G 0 (by decide +kernel))) (po_yes (pW_S (e_int))) (po_no))) (by decide +kernel) (by decide +kernel) (fun _ => rfl) (fun X1 c1 G1 _ f1 => g_nm G1 (.inr (by decide +kernel)) (by decide +kernel)) (fun X2 c2 a2 b2 G2 g2 => pts_yes) (fun X2 c2 a2 b2 G2 g2 => e_get G2 (pW_S (e_v G2 1 (by decide +kernel))) (pW_S (e_v G2 2 (by decide +kernel))) (e_v G2 2 (by decide +kernel)) ⟨rfl, rfl, rfl, rfl⟩))) rfl))))
 (s_nil)

def d_renamed : DS := (seqS
 (asgS 2 (un1 (vS 1) dictD))
 (seqS
 (retS (callT m_store_of (consA (lcT (.nm 3) (rowI (vS 0)) yesT (callT m_changed (consA (vS 3) (consA (vS 2) nilA))) [3]) nilA)))
 skipS))
def m_renamed : MD := defM 4 d_renamed
abbrev s_renamed : Stmt := topS 4
theorem sc_renamed : FnScope ["store", "pairs", "names", "fact"] ["store", "pairs"] (defScope s_renamed) := ⟨rfl, rfl, rfl, by decide +kernel, rfl, by decide +kernel, by decide +kernel⟩
theorem ok_renamed {P : Program} {w : World} {K : PySem.W.Frag} {mg : Str → Option Value} {base : Heap} {f : Addr} {fd : FuncData} {k : Nat} (F : Fun K "renamed" "renamed" s_renamed f fd) (hx : mg "renamed" = some (.ref f)) (hb : Binds K fd ["store", "pairs"] []) (h_store_of : FOk P w K mg base k ⟨"store_of", 1, m_store_of⟩) (h_changed : FOk P w K mg base k ⟨"changed", 2, m_changed⟩) (z_dict : mg "dict" = none) : FOk P w K mg base (k + 1) ⟨"renamed", 2, m_renamed⟩ :=
  fok F sc_renamed hx hb rfl (by decide) fun X c hK hm G hf hp => s_cons (s_asg G hf (by decide +kernel) (pS_F (e_callT G (c_dict G) (by decide +kernel) (mgz hm z_dict) (by decide +kernel) (pW_S (e_v G 1 (by decide +kernel))) rfl)) rfl)
 (s_cons (s_ret (e_def G (h_store_of.at hK hm) (by decide +kernel) (pa_consS (pS_F (e_lc G [("fact", 3)] (i_row G.K (e_v G 0 (by decide +kernel))) (by decide +kernel) (by decide +kernel) (fun _ => rfl) (fun X1 c1 G1 _ f1 => g_nm G1 (.inr (by decide +kernel)) (by decide +kernel)) (fun X2 c2 a2 b2 G2 g2 => pts_yes) (fun X2 c2 a2 b2 G2 g2 => e_def G2 (h_changed.at (a2.trans hK) (b2.trans hm)) (by decide +kernel) (pa_consS (e_v G2 3 (by decide +kernel)) (pa_consS (e_v G2 2 (by decide +kernel)) (pa_nil') rfl) rfl) rfl rfl))) (pa_nil') rfl) rfl rfl))
 (s_nil))

def d_orders : DS := (seqS
 (asgS 1 (lstT (consA (tupT nilA) nilA)))
 (seqS
 (forS (.nm 2) [2, 3, 4] (rng1 (un1 (vS 0) lenD)) (seqS
  (asgS 1 (lcT2 (.nm 3) (rowI (vS 1)) yesT (.nm 4) (rowI (vS 0)) (bin2 (vS 4) (vS 3) notInD) (bin2 (vS 3) (tupT (consA (vS 4) nilA)) addD) [3, 4] [4]))
  skipS))
 (seqS
 (retS (vS 1))
 skipS)))
def m_orders : MD := defM 5 d_orders
abbrev s_orders : Stmt := topS 5
theorem sc_orders : FnScope ["items", "found", "turn", "some", "item"] ["items"] (defScope s_orders) := ⟨rfl, rfl, rfl, by decide +kernel, rfl, by decide +kernel, by decide +kernel⟩
theorem ok_orders {P : Program} {w : World} {K : PySem.W.Frag} {mg : Str → Option Value} {base : Heap} {f : Addr} {fd : FuncData} {k : Nat} (F : Fun K "orders" "orders" s_orders f fd) (hx : mg "orders" = some (.ref f)) (hb : Binds K fd ["items"] []) (z_range : mg "range" = none) (z_len : mg "len" = none) : FOk P w K mg base (k + 1) ⟨"orders", 1, m_orders⟩ :=
  fok F sc_orders hx hb rfl (by decide) fun X c hK hm G hf hp => s_cons (s_asg G hf (by decide +kernel) (pS_F (pe_lst' (pa_consS (pe_tup' (pa_nil')) (pa_nil') rfl))) rfl)
 (s_cons (s_forG G hp [2, 3, 4] (i_rng1 (G.gl (glB_of (by decide +kernel)).1) (mgzX G hm z_range) (pW_S (e_callB G (c_len G) (by decide +kernel) (mgz hm z_len) (by decide +kernel) (pW_S (e_v G 0 (by decide +kernel))) rfl)) rfl) (g_nm G (.inl (hf.all _)) (by decide +kernel)) (fun _ => rfl) (fun gh1 G1 => s_cons (s_lc2 (own' := false) G1 (by decide +kernel) rfl [("some", 3), ("item", 4)] [4] (sw_lc2 G1 rfl (by decide +kernel) rfl (by decide +kernel)) (i_row G1.K (e_v G1 1 (by decide +kernel))) (by decide +kernel) (by decide +kernel) (by decide +kernel) (by decide +kernel) (fun _ => rfl) (fun _ _ => rfl) (fun X2 c2 G2 _ f2 => g_nm G2 (.inr (by decide +kernel)) (by decide +kernel)) (fun X3 c3 G3 _ f3 => g_nm G3 (.inr (by decide +kernel)) (by decide +kernel)) (fun X4 c4 a4 b4 G4 g4 => i_row G4.K (e_v G4 0 (by decide +kernel))) (fun X5 c5 a5 b5 G5 g5 => pts_yes) (fun X6 c6 a6 b6 G6 g6 => t_ifs1 (t_cmp (x_notin G6) (pW_S (e_v G6 4 (by decide +kernel))) (pW_S (e_v G6 3 (by decide +kernel))) rfl)) (fun X7 c7 a7 b7 G7 g7 => e_add G7 (pW_S (e_v G7 3 (by decide +kernel))) (pW_S (pe_tup' (pa_consS (e_v G7 4 (by decide +kernel)) (pa_nil') rfl)))))
  (s_nil)))
 (s_cons (s_ret (e_v G 1 (by decide +kernel)))
 (s_nil)))

def d_plain : DS := (seqS
 (asgS 1 (callT m_unknowns (consA (vS 0) nilA)))
 (seqS
 (asgS 2 (lcT (.nm 6) (rng1 (un1 (vS 1) lenD)) yesT (bin2 (kD (.str "?")) (un1 (bin2 (vS 6) (kD (.int 1)) addD) strD) addD) [6]))
 (seqS
 (asgS 3 (lcT (.nm 7) (rowI (callT m_orders (consA (vS 1) nilA))) yesT (callT m_renamed (consA (vS 0) (consA (bin2 (vS 7) (vS 2) lzipD) nilA))) [7]))
 (seqS
 (asgS 4 (bin2 (vS 3) (kD (.int 0)) ixD))
 (seqS
 (forS (.nm 5) [5] (rowI (sl3 (vS 3) (intPart (kD (.int 1))) noPart slD)) (seqS
  (iteS (bin2 (vS 5) (vS 4) ltD) (seqS
   (asgS 4 (vS 5))
   skipS) skipS)
  skipS))
 (seqS
 (retS (vS 4))
 skipS))))))
def m_plain : MD := defM 8 d_plain
abbrev s_plain : Stmt := topS 6
theorem sc_plain : FnScope ["store", "some", "new", "found", "best", "other", "number", "order"] ["store"] (defScope s_plain) := ⟨rfl, rfl, rfl, by decide +kernel, rfl, by decide +kernel, by decide +kernel⟩
theorem ok_plain {P : Program} {w : World} {K : PySem.W.Frag} {mg : Str → Option Value} {base : Heap} {f : Addr} {fd : FuncData} {k : Nat} (F : Fun K "plain" "plain" s_plain f fd) (hx : mg "plain" = some (.ref f)) (hb : Binds K fd ["store"] []) (h_unknowns : FOk P w K mg base k ⟨"unknowns", 1, m_unknowns⟩) (h_orders : FOk P w K mg base k ⟨"orders", 1, m_orders⟩) (h_renamed : FOk P w K mg base k ⟨"renamed", 2, m_renamed⟩) (z_range : mg "range" = none) (z_len : mg "len" = none) (z_str : mg "str" = none) (z_list : mg "list" = none) (z_zip : mg "zip" = none) : FOk P w K mg base (k + 1) ⟨"plain", 1, m_plain⟩ :=
  fok F sc_plain hx hb rfl (by decide) fun X c hK hm G hf hp => s_cons (s_asg G hf (by decide +kernel) (e_def G (h_unknowns.at hK hm) (by decide +kernel) (pa_consS (e_v G 0 (by decide +kernel)) (pa_nil') rfl) rfl rfl) rfl)
 (s_cons (s_asg G hf (by decide +kernel) (pS_F (e_lc G [("number", 6)] (i_rng1 (G.gl (glB_of (by decide +kernel)).1) (mgzX G hm z_range) (pW_S (e_callB G (c_len G) (by decide +kernel) (mgz hm z_len) (by decide +kernel) (pW_S (e_v G 1 (by decide +kernel))) rfl)) rfl) (by decide +kernel) (by decide +kernel) (fun _ => rfl) (fun X1 c1 G1 _ f1 => g_nm G1 (.inr (by decide +kernel)) (by decide +kernel)) (fun X2 c2 a2 b2 G2 g2 => pts_yes) (fun X2 c2 a2 b2 G2 g2 => e_add G2 (pW_S (e_str (by decide +kernel))) (pW_S (e_callT G2 (c_str G2) (by decide +kernel) (mgz (b2.trans hm) z_str) (by decide +kernel) (pW_S (e_add G2 (pW_S (e_v G2 6 (by decide +kernel))) (pW_S (e_int)))) rfl))))) (sw_no G (by decide +kernel)))
 (s_cons (s_lc (own' := false) G (by decide +kernel) rfl [("order", 7)] (sw_lc G rfl (by decide +kernel) rfl (by decide +kernel)) (i_row G.K (e_def G (h_orders.at hK hm) (by decide +kernel) (pa_consS (e_v G 1 (by decide +kernel)) (pa_nil') rfl) rfl rfl)) (by decide +kernel) (by decide +kernel) (fun _ => rfl) (fun X3 c3 G3 _ f3 => g_nm G3 (.inr (by decide +kernel)) (by decide +kernel)) (fun X4 c4 a4 b4 G4 g4 => pts_yes) (fun X4 c4 a4 b4 G4 g4 => e_def G4 (h_renamed.at (a4.trans hK) (b4.trans hm)) (by decide +kernel) (pa_consS (e_v G4 0 (by decide +kernel)) (pa_consS (pS_F (e_lzip G4 (by decide +kernel) (mgz (b4.trans hm) z_list) (by decide +kernel) (mgz (b4.trans hm) z_zip) (pW_S (e_v G4 7 (by decide +kernel))) (pW_S (e_v G4 2 (by decide +kernel))) rfl rfl rfl rfl)) (pa_nil') rfl) rfl) rfl rfl))
 (s_cons (s_asg G hf (by decide +kernel) (e_ix G (pW_S (e_v G 3 (by decide +kernel))) (pW_S (e_int)) (fun _ _ => rfl)) rfl)
 (s_cons (s_forG G hp [5] (i_row G.K (e_sl G (pW_S (e_v G 3 (by decide +kernel))) (po_yes (pW_S (e_int))) (po_no))) (g_nm G (.inl (hf.all _)) (by decide +kernel)) (fun _ => rfl) (fun gh5 G5 => s_cons (s_if (t_cmp (x_lt G5) (pW_S (e_v G5 5 (by decide +kernel))) (pW_S (e_v G5 4 (by decide +kernel))) rfl) (s_cons (s_asg G5 hf (by decide +kernel) (e_v G5 5 (by decide +kernel)) rfl)
   (s_nil)) (s_nil))
  (s_nil)))
 (s_cons (s_ret (e_v G 4 (by decide +kernel)))
 (s_nil))))))

def d_same : DS := (seqS
 (retS (bin2 (callT m_plain (consA (vS 0) nilA)) (callT m_plain (consA (vS 1) nilA)) eqD))
 skipS)
def m_same : MD := defM 2 d_same
abbrev s_same : Stmt := topS 8
theorem sc_same : FnScope ["one", "other"] ["one", "other"] (defScope s_same) := ⟨rfl, rfl, rfl, by decide +kernel, rfl, by decide +kernel, by decide +kernel⟩
theorem ok_same {P : Program} {w : World} {K : PySem.W.Frag} {mg : Str → Option Value} {base : Heap} {f : Addr} {fd : FuncData} {k : Nat} (F : Fun K "same" "same" s_same f fd) (hx : mg "same" = some (.ref f)) (hb : Binds K fd ["one", "other"] []) (h_plain : FOk P w K mg base k ⟨"plain", 1, m_plain⟩) : FOk P w K mg base (k + 1) ⟨"same", 2, m_same⟩ :=
  fok F sc_same hx hb rfl (by decide) fun X c hK hm G hf hp => s_cons (s_ret (e_cmp (x_eq G) (pW_S (e_def G (h_plain.at hK hm) (by decide +kernel) (pa_consS (e_v G 0 (by decide +kernel)) (pa_nil') rfl) rfl rfl)) (pW_S (e_def G (h_plain.at hK hm) (by decide +kernel) (pa_consS (e_v G 1 (by decide +kernel)) (pa_nil') rfl) rfl rfl)) rfl))
 (s_nil)

def d_law : DS := (seqS
 (forS (.nm 2) [2, 3, 4, 5, 6, 7, 8, 9, 10, 11] (rng1 (kD (.int 16))) (seqS
  (par3S 3 false (callT m_law_kinds (consA (vS 1) nilA)) 4 false (callT m_law_unknowns (consA (vS 1) (consA (kD (.int 5)) nilA))) 5 false (callT m_law_pool (consA (vS 1) (consA (kD (.int 2)) nilA))))
  (seqS
  (par2S 6 false (callT m_law_store (consA (vS 1) (consA (vS 3) (consA (bin2 (vS 5) (vS 4) addD) (consA (kD (.int 8)) nilA))))) 7 false (callT m_law_unknowns (consA (vS 1) (consA (kD (.int 5)) nilA))))
  (seqS
  (asgS 8 (lstT (consA (vS 7) (consA (vS 7) (consA (bin2 (sl3 (vS 7) noPart (intPart (kD (.int 1))) slD) (sl3 (vS 7) noPart (intPart (kD (.int 4))) slD) addD) (consA (bin2 (lstT (consA (bin2 (vS 5) (kD (.int 0)) ixD) nilA)) (sl3 (vS 7) (intPart (kD (.int 1))) noPart slD) addD) (consA (un1 (vS 4) revD) (consA (bin2 (sl3 (vS 4) (intPart (kD (.int 1))) noPart slD) (sl3 (vS 4) noPart (intPart (kD (.int 1))) slD) addD) nilA))))))))
  (seqS
  (asgS 9 (callT m_law_put (consA (vS 6) (consA (un1 (bin2 (vS 4) (callT m_law_one (consA (vS 1) (consA (vS 8) nilA))) lzipD) dictD) nilA))))
  (seqS
  (iteS (bin2 (callT drawM (consA (vS 1) (consA (kD (.int 4)) nilA))) (kD (.int 0)) eqD) (seqS
   (asgS 9 (callT m_law_store (consA (vS 1) (consA (vS 3) (consA (bin2 (vS 5) (vS 4) addD) (consA (kD (.int 7)) nilA))))))
   skipS) skipS)
  (seqS
  (iteS (bin2 (callT drawM (consA (vS 1) (consA (kD (.int 4)) nilA))) (kD (.int 0)) eqD) (seqS
   (asgS 9 (sl3 (vS 9) (intPart (kD (.int 1))) noPart slD))
   skipS) skipS)
  (seqS
  (par2S 10 false (un1 (lstT (consA (vS 6) (consA (vS 9) nilA))) reprD) 11 false (bin2 (callT m_law_plain (consA (vS 6) nilA)) (callT m_law_plain (consA (vS 9) nilA)) eqD))
  (seqS
  (iteS (bin2 (un1 (lstT (consA (callT m_same (consA (vS 6) (consA (vS 9) nilA))) (consA (callT m_same (consA (vS 9) (consA (vS 6) nilA))) (consA (callT m_same (consA (vS 6) (consA (vS 6) nilA))) nilA)))) reprD) (un1 (lstT (consA (vS 11) (consA (vS 11) (consA (kD (.bl true)) nilA)))) reprD) neD) (seqS
   (retS (kD (.bl false)))
   skipS) skipS)
  (seqS
  (iteS (bin2 (un1 (lstT (consA (vS 6) (consA (vS 9) nilA))) reprD) (vS 10) neD) (seqS
   (retS (kD (.bl false)))
   skipS) skipS)
  skipS))))))))))
 (seqS
 (retS (kD (.bl true)))
 skipS))

abbrev s_law : Stmt := topS 22
theorem sc_law : FnScope ["_law_script", "_law_deck_here", "_law_turn", "_law_kinds_here", "_law_some", "_law_words", "_law_one_here", "_law_new", "_law_near", "_law_other", "_law_held", "_law_due"] ["_law_script"] (defScope s_law) := ⟨rfl, rfl, rfl, by decide +kernel, rfl, by decide +kernel, by decide +kernel⟩
theorem walk_law {P : Program} {w : World} {K : PySem.W.Frag} {mg : Str → Option Value} {base : Heap} {k : Nat} {X : Cx} (hf : FnC X) (hp : PassesOwn (model X.prog X.w) X.A X.env X.xe) (hg : X.A.guards = some []) (h_law_kinds : FOk P w K mg base k ⟨"_law_kinds", 1, m_law_kinds⟩) (h_law_unknowns : FOk P w K mg base k ⟨"_law_unknowns", 2, m_law_unknowns⟩) (h_law_pool : FOk P w K mg base k ⟨"_law_pool", 2, m_law_pool⟩) (h_law_store : FOk P w K mg base k ⟨"_law_store", 4, m_law_store⟩) (h_law_put : FOk P w K mg base k ⟨"_law_put", 2, m_law_put⟩) (h_law_one : FOk P w K mg base k ⟨"_law_one", 2, m_law_one⟩) (h_law_draw : FOk P w K mg base k ⟨"_law_draw", 2, drawM⟩) (h_law_plain : FOk P w K mg base k ⟨"_law_plain", 1, m_law_plain⟩) (h_same : FOk P w K mg base k ⟨"same", 2, m_same⟩) (z_range : mg "range" = none) (z_dict : mg "dict" = none) (z_list : mg "list" = none) (z_zip : mg "zip" = none) (z_repr : mg "repr" = none) (c : Cn) (hK : c.K = K) (hm : c.mg = mg) (G : Gd P w base k ["_law_script", "_law_deck_here", "_law_turn", "_law_kinds_here", "_law_some", "_law_words", "_law_one_here", "_law_new", "_law_near", "_law_other", "_law_held", "_law_due"] (defScope s_law) X c) : PSs X (defBody s_law).tail (tS c d_law) :=
  s_cons (s_forG G hp [2, 3, 4, 5, 6, 7, 8, 9, 10, 11] (i_rng1 (G.gl (glB_of (by decide +kernel)).1) (mgzX G hm z_range) (pW_S (e_int)) rfl) (g_nm G (.inl (hf.all _)) (by decide +kernel)) (fun _ => rfl) (fun gh1 G1 => s_cons (s_par3 G1 (by decide +kernel) (by decide +kernel) (by decide +kernel) (by decide +kernel) (by decide +kernel) (by decide +kernel) (by decide +kernel) (e_def G1 (h_law_kinds.at hK hm) (by decide +kernel) (pa_consS (e_v G1 1 (by decide +kernel)) (pa_nil') rfl) rfl rfl) (fun gh2_0 hid2_0 Gp2_1 => e_def Gp2_1 (h_law_unknowns.at hK hm) (by decide +kernel) (pa_consS (e_v Gp2_1 1 (by decide +kernel)) (pa_consS (e_int) (pa_nil') rfl) rfl) rfl rfl) (fun gh2_0 hid2_0 gh2_1 hid2_1 Gp2_2 => e_def Gp2_2 (h_law_pool.at hK hm) (by decide +kernel) (pa_consS (e_v Gp2_2 1 (by decide +kernel)) (pa_consS (e_int) (pa_nil') rfl) rfl) rfl rfl) rfl rfl rfl (sw_par3 G1 (by decide +kernel)) rfl)
  (s_cons (s_par2 G1 (by decide +kernel) (by decide +kernel) (by decide +kernel) (by decide +kernel) (by decide +kernel) (e_def G1 (h_law_store.at hK hm) (by decide +kernel) (pa_consS (e_v G1 1 (by decide +kernel)) (pa_consS (e_v G1 3 (by decide +kernel)) (pa_consS (e_add G1 (pW_S (e_v G1 5 (by decide +kernel))) (pW_S (e_v G1 4 (by decide +kernel)))) (pa_consS (e_int) (pa_nil') rfl) rfl) rfl) rfl) rfl rfl) (fun gh3_0 hid3_0 Gp3_1 => e_def Gp3_1 (h_law_unknowns.at hK hm) (by decide +kernel) (pa_consS (e_v Gp3_1 1 (by decide +kernel)) (pa_consS (e_int) (pa_nil') rfl) rfl) rfl rfl) rfl rfl (sw_par2 G1 (by decide +kernel)) rfl)
  (s_cons (s_asg G1 hf (by decide +kernel) (pS_F (pe_lst' (pa_consS (e_v G1 7 (by decide +kernel)) (pa_consS (e_v G1 7 (by decide +kernel)) (pa_consS (e_add G1 (pW_S (e_sl G1 (pW_S (e_v G1 7 (by decide +kernel))) (po_no) (po_yes (pW_S (e_int))))) (pW_S (e_sl G1 (pW_S (e_v G1 7 (by decide +kernel))) (po_no) (po_yes (pW_S (e_int)))))) (pa_consS (e_add G1 (pW_F (pe_lst' (pa_consS (e_ix G1 (pW_S (e_v G1 5 (by decide +kernel))) (pW_S (e_int)) (fun _ _ => rfl)) (pa_nil') rfl))) (pW_S (e_sl G1 (pW_S (e_v G1 7 (by decide +kernel))) (po_yes (pW_S (e_int))) (po_no)))) (pa_consS (e_rev G1 (pW_S (e_v G1 4 (by decide +kernel)))) (pa_consS (e_add G1 (pW_S (e_sl G1 (pW_S (e_v G1 4 (by decide +kernel))) (po_yes (pW_S (e_int))) (po_no))) (pW_S (e_sl G1 (pW_S (e_v G1 4 (by decide +kernel))) (po_no) (po_yes (pW_S (e_int)))))) (pa_nil') rfl) rfl) rfl) rfl) rfl) rfl))) rfl)
  (s_cons (s_asg G1 hf (by decide +kernel) (e_def G1 (h_law_put.at hK hm) (by decide +kernel) (pa_consS (e_v G1 6 (by decide +kernel)) (pa_consS (pS_F (e_callT G1 (c_dict G1) (by decide +kernel) (mgz hm z_dict) (by decide +kernel) (pW_F (e_lzip G1 (by decide +kernel) (mgz hm z_list) (by decide +kernel) (mgz hm z_zip) (pW_S (e_v G1 4 (by decide +kernel))) (pW_S (e_def G1 (h_law_one.at hK hm) (by decide +kernel) (pa_consS (e_v G1 1 (by decide +kernel)) (pa_consS (e_v G1 8 (by decide +kernel)) (pa_nil') rfl) rfl) rfl rfl)) rfl rfl rfl rfl)) rfl)) (pa_nil') rfl) rfl) rfl rfl) rfl)
  (s_cons (s_if (t_cmp (x_eq G1) (pW_S (e_def G1 (h_law_draw.at hK hm) (by decide +kernel) (pa_consS (e_v G1 1 (by decide +kernel)) (pa_consS (e_int) (pa_nil') rfl) rfl) rfl rfl)) (pW_S (e_int)) rfl) (s_cons (s_asg G1 hf (by decide +kernel) (e_def G1 (h_law_store.at hK hm) (by decide +kernel) (pa_consS (e_v G1 1 (by decide +kernel)) (pa_consS (e_v G1 3 (by decide +kernel)) (pa_consS (e_add G1 (pW_S (e_v G1 5 (by decide +kernel))) (pW_S (e_v G1 4 (by decide +kernel)))) (pa_consS (e_int) (pa_nil') rfl) rfl) rfl) rfl) rfl rfl) rfl)
   (s_nil)) (s_nil))
  (s_cons (s_if (t_cmp (x_eq G1) (pW_S (e_def G1 (h_law_draw.at hK hm) (by decide +kernel) (pa_consS (e_v G1 1 (by decide +kernel)) (pa_consS (e_int) (pa_nil') rfl) rfl) rfl rfl)) (pW_S (e_int)) rfl) (s_cons (s_asg G1 hf (by decide +kernel) (e_sl G1 (pW_S (e_v G1 9 (by decide +kernel))) (po_yes (pW_S (e_int))) (po_no)) rfl)
   (s_nil)) (s_nil))
  (s_cons (s_par2 G1 (by decide +kernel) (by decide +kernel) (by decide +kernel) (by decide +kernel) (by decide +kernel) (e_callB G1 (c_repr G1 hg) (by decide +kernel) (mgz hm z_repr) (by decide +kernel) (pW_F (pe_lst' (pa_consS (e_v G1 6 (by decide +kernel)) (pa_consS (e_v G1 9 (by decide +kernel)) (pa_nil') rfl) rfl))) rfl) (fun gh4_0 hid4_0 Gp4_1 => e_cmp (x_eq Gp4_1) (pW_S (e_def Gp4_1 (h_law_plain.at hK hm) (by decide +kernel) (pa_consS (e_v Gp4_1 6 (by decide +kernel)) (pa_nil') rfl) rfl rfl)) (pW_S (e_def Gp4_1 (h_law_plain.at hK hm) (by decide +kernel) (pa_consS (e_v Gp4_1 9 (by decide +kernel)) (pa_nil') rfl) rfl rfl)) rfl) rfl rfl (sw_par2 G1 (by decide +kernel)) rfl)
  (s_cons (s_if (t_cmp (x_ne G1) (pW_S (e_callB G1 (c_repr G1 hg) (by decide +kernel) (mgz hm z_repr) (by decide +kernel) (pW_F (pe_lst' (pa_consS (e_def G1 (h_same.at hK hm) (by decide +kernel) (pa_consS (e_v G1 6 (by decide +kernel)) (pa_consS (e_v G1 9 (by decide +kernel)) (pa_nil') rfl) rfl) rfl rfl) (pa_consS (e_def G1 (h_same.at hK hm) (by decide +kernel) (pa_consS (e_v G1 9 (by decide +kernel)) (pa_consS (e_v G1 6 (by decide +kernel)) (pa_nil') rfl) rfl) rfl rfl) (pa_consS (e_def G1 (h_same.at hK hm) (by decide +kernel) (pa_consS (e_v G1 6 (by decide +kernel)) (pa_consS (e_v G1 6 (by decide +kernel)) (pa_nil') rfl) rfl) rfl rfl) (pa_nil') rfl) rfl) rfl))) rfl)) (pW_S (e_callB G1 (c_repr G1 hg) (by decide +kernel) (mgz hm z_repr) (by decide +kernel) (pW_F (pe_lst' (pa_consS (e_v G1 11 (by decide +kernel)) (pa_consS (e_v G1 11 (by decide +kernel)) (pa_consS (e_bl) (pa_nil') rfl) rfl) rfl))) rfl)) rfl) (s_cons (s_ret (e_bl))
   (s_nil)) (s_nil))
  (s_cons (s_if (t_cmp (x_ne G1) (pW_S (e_callB G1 (c_repr G1 hg) (by decide +kernel) (mgz hm z_repr) (by decide +kernel) (pW_F (pe_lst' (pa_consS (e_v G1 6 (by decide +kernel)) (pa_consS (e_v G1 9 (by decide +kernel)) (pa_nil') rfl) rfl))) rfl)) (pW_S (e_v G1 10 (by decide +kernel))) rfl) (s_cons (s_ret (e_bl))
   (s_nil)) (s_nil))
  (s_nil)))))))))))
 (s_cons (s_ret (e_bl))
 (s_nil))

def LawMath : Prop := d_law ((List.replicate 12 EV.no).set 1 (.val .deck)) { nx := fun _ _ => False, rt := fun d _ => d = .bl true } (fun _ _ _ => False) most
theorem all_mk (math : LawMath) {l : PySem.W.OpenLaw} {w : World} {K : PySem.W.Frag} {h : Heap} {mg : Str → Option Value} {fa : Addr} (KX : K.In h) (G0 : h.Ns mainGlobals mg) (hfa : mg "law" = some (.ref fa))
    {f1 : Addr} {od1 an1 : Option Addr} {sl1 : Array (Option Value)} {oc1 kV1 dc1 pm1 cd1 ct1 : Value}
    {f2 : Addr} {od2 an2 : Option Addr} {sl2 : Array (Option Value)} {oc2 kV2 dc2 pm2 cd2 ct2 : Value}
    {f3 : Addr} {od3 an3 : Option Addr} {sl3 : Array (Option Value)} {oc3 kV3 dc3 pm3 cd3 ct3 : Value}
    {f4 : Addr} {od4 an4 : Option Addr} {sl4 : Array (Option Value)} {oc4 kV4 dc4 pm4 cd4 ct4 : Value}
    {f5 : Addr} {od5 an5 : Option Addr} {sl5 : Array (Option Value)} {oc5 kV5 dc5 pm5 cd5 ct5 : Value}
    {f6 : Addr} {od6 an6 : Option Addr} {sl6 : Array (Option Value)} {oc6 kV6 dc6 pm6 cd6 ct6 : Value}
    {f7 : Addr} {od7 an7 : Option Addr} {sl7 : Array (Option Value)} {oc7 kV7 dc7 pm7 cd7 ct7 : Value}
    {f8 : Addr} {od8 an8 : Option Addr} {sl8 : Array (Option Value)} {oc8 kV8 dc8 pm8 cd8 ct8 : Value}
    {f9 : Addr} {od9 an9 : Option Addr} {sl9 : Array (Option Value)} {oc9 kV9 dc9 pm9 cd9 ct9 : Value}
    {f10 : Addr} {od10 an10 : Option Addr} {sl10 : Array (Option Value)} {oc10 kV10 dc10 pm10 cd10 ct10 : Value}
    {f11 : Addr} {od11 an11 : Option Addr} {sl11 : Array (Option Value)} {oc11 kV11 dc11 pm11 cd11 ct11 : Value}
    {f12 : Addr} {od12 an12 : Option Addr} {sl12 : Array (Option Value)} {oc12 kV12 dc12 pm12 cd12 ct12 : Value}
    {f13 : Addr} {od13 an13 : Option Addr} {sl13 : Array (Option Value)} {oc13 kV13 dc13 pm13 cd13 ct13 : Value}
    {f14 : Addr} {od14 an14 : Option Addr} {sl14 : Array (Option Value)} {oc14 kV14 dc14 pm14 cd14 ct14 : Value}
    {f15 : Addr} {od15 an15 : Option Addr} {sl15 : Array (Option Value)} {oc15 kV15 dc15 pm15 cd15 ct15 : Value}
    {f16 : Addr} {od16 an16 : Option Addr} {sl16 : Array (Option Value)} {oc16 kV16 dc16 pm16 cd16 ct16 : Value}
    {f17 : Addr} {od17 an17 : Option Addr} {sl17 : Array (Option Value)} {oc17 kV17 dc17 pm17 cd17 ct17 : Value}
    {f18 : Addr} {od18 an18 : Option Addr} {sl18 : Array (Option Value)} {oc18 kV18 dc18 pm18 cd18 ct18 : Value}
    {f19 : Addr} {od19 an19 : Option Addr} {sl19 : Array (Option Value)} {oc19 kV19 dc19 pm19 cd19 ct19 : Value}
    {f20 : Addr} {od20 an20 : Option Addr} {sl20 : Array (Option Value)} {oc20 kV20 dc20 pm20 cd20 ct20 : Value}
    (a1 : PySem.W.nsIn K mainGlobals "_law_deck" = some (some (.ref f1))) (l1 : K.lookup f1 = some ⟨oc1, od1, .func (PySem.W.fnOf "_law_deck" "_law_deck" (defArgs s_law_deck) (defBody s_law_deck) (defScope s_law_deck) .none kV1 dc1 pm1 an1 cd1 ct1), sl1⟩) (c1 : PySem.W.codeIn K cd1 "_law_deck" = true) (k1 : PySem.W.keepIn K (.ref f1) = true)
    (a2 : PySem.W.nsIn K mainGlobals "_law_put" = some (some (.ref f2))) (l2 : K.lookup f2 = some ⟨oc2, od2, .func (PySem.W.fnOf "_law_put" "_law_put" (defArgs s_law_put) (defBody s_law_put) (defScope s_law_put) .none kV2 dc2 pm2 an2 cd2 ct2), sl2⟩) (c2 : PySem.W.codeIn K cd2 "_law_put" = true) (k2 : PySem.W.keepIn K (.ref f2) = true)
    (a3 : PySem.W.nsIn K mainGlobals "_law_draw" = some (some (.ref f3))) (l3 : K.lookup f3 = some ⟨oc3, od3, .func (PySem.W.fnOf "_law_draw" "_law_draw" (defArgs sDraw) (defBody sDraw) (defScope sDraw) .none kV3 dc3 pm3 an3 cd3 ct3), sl3⟩) (c3 : PySem.W.codeIn K cd3 "_law_draw" = true) (k3 : PySem.W.keepIn K (.ref f3) = true)
    (a4 : PySem.W.nsIn K mainGlobals "_law_one" = some (some (.ref f4))) (l4 : K.lookup f4 = some ⟨oc4, od4, .func (PySem.W.fnOf "_law_one" "_law_one" (defArgs s_law_one) (defBody s_law_one) (defScope s_law_one) .none kV4 dc4 pm4 an4 cd4 ct4), sl4⟩) (c4 : PySem.W.codeIn K cd4 "_law_one" = true) (k4 : PySem.W.keepIn K (.ref f4) = true)
    (a5 : PySem.W.nsIn K mainGlobals "_law_word" = some (some (.ref f5))) (l5 : K.lookup f5 = some ⟨oc5, od5, .func (PySem.W.fnOf "_law_word" "_law_word" (defArgs s_law_word) (defBody s_law_word) (defScope s_law_word) .none kV5 dc5 pm5 an5 cd5 ct5), sl5⟩) (c5 : PySem.W.codeIn K cd5 "_law_word" = true) (k5 : PySem.W.keepIn K (.ref f5) = true)
    (a6 : PySem.W.nsIn K mainGlobals "_law_pool" = some (some (.ref f6))) (l6 : K.lookup f6 = some ⟨oc6, od6, .func (PySem.W.fnOf "_law_pool" "_law_pool" (defArgs s_law_pool) (defBody s_law_pool) (defScope s_law_pool) .none kV6 dc6 pm6 an6 cd6 ct6), sl6⟩) (c6 : PySem.W.codeIn K cd6 "_law_pool" = true) (k6 : PySem.W.keepIn K (.ref f6) = true)
    (a7 : PySem.W.nsIn K mainGlobals "_law_kinds" = some (some (.ref f7))) (l7 : K.lookup f7 = some ⟨oc7, od7, .func (PySem.W.fnOf "_law_kinds" "_law_kinds" (defArgs s_law_kinds) (defBody s_law_kinds) (defScope s_law_kinds) .none kV7 dc7 pm7 an7 cd7 ct7), sl7⟩) (c7 : PySem.W.codeIn K cd7 "_law_kinds" = true) (k7 : PySem.W.keepIn K (.ref f7) = true)
    (a8 : PySem.W.nsIn K mainGlobals "_law_unknowns" = some (some (.ref f8))) (l8 : K.lookup f8 = some ⟨oc8, od8, .func (PySem.W.fnOf "_law_unknowns" "_law_unknowns" (defArgs s_law_unknowns) (defBody s_law_unknowns) (defScope s_law_unknowns) .none kV8 dc8 pm8 an8 cd8 ct8), sl8⟩) (c8 : PySem.W.codeIn K cd8 "_law_unknowns" = true) (k8 : PySem.W.keepIn K (.ref f8) = true)
    (a9 : PySem.W.nsIn K mainGlobals "_law_store" = some (some (.ref f9))) (l9 : K.lookup f9 = some ⟨oc9, od9, .func (PySem.W.fnOf "_law_store" "_law_store" (defArgs s_law_store) (defBody s_law_store) (defScope s_law_store) .none kV9 dc9 pm9 an9 cd9 ct9), sl9⟩) (c9 : PySem.W.codeIn K cd9 "_law_store" = true) (k9 : PySem.W.keepIn K (.ref f9) = true)
    (a10 : PySem.W.nsIn K mainGlobals "_law_names" = some (some (.ref f10))) (l10 : K.lookup f10 = some ⟨oc10, od10, .func (PySem.W.fnOf "_law_names" "_law_names" (defArgs s_law_names) (defBody s_law_names) (defScope s_law_names) .none kV10 dc10 pm10 an10 cd10 ct10), sl10⟩) (c10 : PySem.W.codeIn K cd10 "_law_names" = true) (k10 : PySem.W.keepIn K (.ref f10) = true)
    (a11 : PySem.W.nsIn K mainGlobals "_law_orders" = some (some (.ref f11))) (l11 : K.lookup f11 = some ⟨oc11, od11, .func (PySem.W.fnOf "_law_orders" "_law_orders" (defArgs s_law_orders) (defBody s_law_orders) (defScope s_law_orders) .none kV11 dc11 pm11 an11 cd11 ct11), sl11⟩) (c11 : PySem.W.codeIn K cd11 "_law_orders" = true) (k11 : PySem.W.keepIn K (.ref f11) = true)
    (a12 : PySem.W.nsIn K mainGlobals "_law_plain" = some (some (.ref f12))) (l12 : K.lookup f12 = some ⟨oc12, od12, .func (PySem.W.fnOf "_law_plain" "_law_plain" (defArgs s_law_plain) (defBody s_law_plain) (defScope s_law_plain) .none kV12 dc12 pm12 an12 cd12 ct12), sl12⟩) (c12 : PySem.W.codeIn K cd12 "_law_plain" = true) (k12 : PySem.W.keepIn K (.ref f12) = true)
    (a13 : PySem.W.nsIn K mainGlobals "unknowns" = some (some (.ref f13))) (l13 : K.lookup f13 = some ⟨oc13, od13, .func (PySem.W.fnOf "unknowns" "unknowns" (defArgs s_unknowns) (defBody s_unknowns) (defScope s_unknowns) .none kV13 dc13 pm13 an13 cd13 ct13), sl13⟩) (c13 : PySem.W.codeIn K cd13 "unknowns" = true) (k13 : PySem.W.keepIn K (.ref f13) = true)
    (a14 : PySem.W.nsIn K mainGlobals "store_of" = some (some (.ref f14))) (l14 : K.lookup f14 = some ⟨oc14, od14, .func (PySem.W.fnOf "store_of" "store_of" (defArgs s_store_of) (defBody s_store_of) (defScope s_store_of) .none kV14 dc14 pm14 an14 cd14 ct14), sl14⟩) (c14 : PySem.W.codeIn K cd14 "store_of" = true) (k14 : PySem.W.keepIn K (.ref f14) = true)
    (a15 : PySem.W.nsIn K mainGlobals "changed" = some (some (.ref f15))) (l15 : K.lookup f15 = some ⟨oc15, od15, .func (PySem.W.fnOf "changed" "changed" (defArgs s_changed) (defBody s_changed) (defScope s_changed) .none kV15 dc15 pm15 an15 cd15 ct15), sl15⟩) (c15 : PySem.W.codeIn K cd15 "changed" = true) (k15 : PySem.W.keepIn K (.ref f15) = true)
    (a16 : PySem.W.nsIn K mainGlobals "renamed" = some (some (.ref f16))) (l16 : K.lookup f16 = some ⟨oc16, od16, .func (PySem.W.fnOf "renamed" "renamed" (defArgs s_renamed) (defBody s_renamed) (defScope s_renamed) .none kV16 dc16 pm16 an16 cd16 ct16), sl16⟩) (c16 : PySem.W.codeIn K cd16 "renamed" = true) (k16 : PySem.W.keepIn K (.ref f16) = true)
    (a17 : PySem.W.nsIn K mainGlobals "orders" = some (some (.ref f17))) (l17 : K.lookup f17 = some ⟨oc17, od17, .func (PySem.W.fnOf "orders" "orders" (defArgs s_orders) (defBody s_orders) (defScope s_orders) .none kV17 dc17 pm17 an17 cd17 ct17), sl17⟩) (c17 : PySem.W.codeIn K cd17 "orders" = true) (k17 : PySem.W.keepIn K (.ref f17) = true)
    (a18 : PySem.W.nsIn K mainGlobals "plain" = some (some (.ref f18))) (l18 : K.lookup f18 = some ⟨oc18, od18, .func (PySem.W.fnOf "plain" "plain" (defArgs s_plain) (defBody s_plain) (defScope s_plain) .none kV18 dc18 pm18 an18 cd18 ct18), sl18⟩) (c18 : PySem.W.codeIn K cd18 "plain" = true) (k18 : PySem.W.keepIn K (.ref f18) = true)
    (a19 : PySem.W.nsIn K mainGlobals "same" = some (some (.ref f19))) (l19 : K.lookup f19 = some ⟨oc19, od19, .func (PySem.W.fnOf "same" "same" (defArgs s_same) (defBody s_same) (defScope s_same) .none kV19 dc19 pm19 an19 cd19 ct19), sl19⟩) (c19 : PySem.W.codeIn K cd19 "same" = true) (k19 : PySem.W.keepIn K (.ref f19) = true)
    (a20 : PySem.W.nsIn K mainGlobals "law" = some (some (.ref f20))) (l20 : K.lookup f20 = some ⟨oc20, od20, .func (PySem.W.fnOf "law" "law" (defArgs s_law) (defBody s_law) (defScope s_law) .none kV20 dc20 pm20 an20 cd20 ct20), sl20⟩) (c20 : PySem.W.codeIn K cd20 "law" = true) (k20 : PySem.W.keepIn K (.ref f20) = true)
    (y_tuple : PySem.W.nsIn K mainGlobals "tuple" = some none)
    (y_sorted : PySem.W.nsIn K mainGlobals "sorted" = some none)
    (y_set : PySem.W.nsIn K mainGlobals "set" = some none)
    (y_len : PySem.W.nsIn K mainGlobals "len" = some none)
    (y_range : PySem.W.nsIn K mainGlobals "range" = some none)
    (y_str : PySem.W.nsIn K mainGlobals "str" = some none)
    (y_min : PySem.W.nsIn K mainGlobals "min" = some none)
    (y_dict : PySem.W.nsIn K mainGlobals "dict" = some none)
    (y_list : PySem.W.nsIn K mainGlobals "list" = some none)
    (y_zip : PySem.W.nsIn K mainGlobals "zip" = some none)
    (y_repr : PySem.W.nsIn K mainGlobals "repr" = some none)
    (y_int : PySem.W.nsIn K mainGlobals "int" = some none)
    (y_abs : PySem.W.nsIn K mainGlobals "abs" = some none) :
    ∃ (y : Str) (fd : FuncData), Fun K y "law" s_law fa fd ∧ (∀ (s : Shared) (u : Value), BindsTo s fd ⟨[u], []⟩ [("_law_script", u)]) ∧
      ∀ base : Heap, K.In base → base.Ns mainGlobals mg → ∀ (X : Cx) (a : Addr) (ns : List Int) (H : Hp), Top l.prog w base 5 ["_law_script", "_law_deck_here", "_law_turn", "_law_kinds_here", "_law_some", "_law_words", "_law_one_here", "_law_new", "_law_near", "_law_other", "_law_held", "_law_due"] (defScope s_law) K mg X → ns.length ≤ 63 → SqL K H a (ns.map V.int) →
        ∃ t, PSs X (defBody s_law) t ∧ t { nx := fun _ _ => False, rt := fun v _ => v = .bl true } (L2.start ["_law_script", "_law_deck_here", "_law_turn", "_law_kinds_here", "_law_some", "_law_words", "_law_one_here", "_law_new", "_law_near", "_law_other", "_law_held", "_law_due"] [.ref a]) H := by
  have e := hfa.symm.trans (PySem.W.mg_of KX G0 a20)
  cases e
  have F1 := fun_mk (st := s_law_deck) l1 c1 k1
  have B1 := F1.binds (ps := ["_law_script"]) fun _ _ _ _ _ _ us hl => match us, hl with | [_], _ => rfl
  have F2 := fun_mk (st := s_law_put) l2 c2 k2
  have B2 := F2.binds (ps := ["_law_store_here", "_law_names_here"]) fun _ _ _ _ _ _ us hl => match us, hl with | [_, _], _ => rfl
  have F3 := fun_mk (st := sDraw) l3 c3 k3
  have B3 := F3.binds (ps := ["_law_deck_here", "_law_many"]) fun _ _ _ _ _ _ us hl => match us, hl with | [_, _], _ => rfl
  have F4 := fun_mk (st := s_law_one) l4 c4 k4
  have B4 := F4.binds (ps := ["_law_deck_here", "_law_items"]) fun _ _ _ _ _ _ us hl => match us, hl with | [_, _], _ => rfl
  have F5 := fun_mk (st := s_law_word) l5 c5 k5
  have B5 := F5.binds (ps := ["_law_deck_here"]) fun _ _ _ _ _ _ us hl => match us, hl with | [_], _ => rfl
  have F6 := fun_mk (st := s_law_pool) l6 c6 k6
  have B6 := F6.binds (ps := ["_law_deck_here", "_law_many"]) fun _ _ _ _ _ _ us hl => match us, hl with | [_, _], _ => rfl
  have F7 := fun_mk (st := s_law_kinds) l7 c7 k7
  have B7 := F7.binds (ps := ["_law_deck_here"]) fun _ _ _ _ _ _ us hl => match us, hl with | [_], _ => rfl
  have F8 := fun_mk (st := s_law_unknowns) l8 c8 k8
  have B8 := F8.binds (ps := ["_law_deck_here", "_law_many"]) fun _ _ _ _ _ _ us hl => match us, hl with | [_, _], _ => rfl
  have F9 := fun_mk (st := s_law_store) l9 c9 k9
  have B9 := F9.binds (ps := ["_law_deck_here", "_law_kinds_here", "_law_values", "_law_many"]) fun _ _ _ _ _ _ us hl => match us, hl with | [_, _, _, _], _ => rfl
  have F10 := fun_mk (st := s_law_names) l10 c10 k10
  have B10 := F10.binds (ps := ["_law_store_here"]) fun _ _ _ _ _ _ us hl => match us, hl with | [_], _ => rfl
  have F11 := fun_mk (st := s_law_orders) l11 c11 k11
  have B11 := F11.binds (ps := ["_law_items"]) fun _ _ _ _ _ _ us hl => match us, hl with | [_], _ => rfl
  have F12 := fun_mk (st := s_law_plain) l12 c12 k12
  have B12 := F12.binds (ps := ["_law_store_here"]) fun _ _ _ _ _ _ us hl => match us, hl with | [_], _ => rfl
  have F13 := fun_mk (st := s_unknowns) l13 c13 k13
  have B13 := F13.binds (ps := ["store"]) fun _ _ _ _ _ _ us hl => match us, hl with | [_], _ => rfl
  have F14 := fun_mk (st := s_store_of) l14 c14 k14
  have B14 := F14.binds (ps := ["facts"]) fun _ _ _ _ _ _ us hl => match us, hl with | [_], _ => rfl
  have F15 := fun_mk (st := s_changed) l15 c15 k15
  have B15 := F15.binds (ps := ["fact", "names"]) fun _ _ _ _ _ _ us hl => match us, hl with | [_, _], _ => rfl
  have F16 := fun_mk (st := s_renamed) l16 c16 k16
  have B16 := F16.binds (ps := ["store", "pairs"]) fun _ _ _ _ _ _ us hl => match us, hl with | [_, _], _ => rfl
  have F17 := fun_mk (st := s_orders) l17 c17 k17
  have B17 := F17.binds (ps := ["items"]) fun _ _ _ _ _ _ us hl => match us, hl with | [_], _ => rfl
  have F18 := fun_mk (st := s_plain) l18 c18 k18
  have B18 := F18.binds (ps := ["store"]) fun _ _ _ _ _ _ us hl => match us, hl with | [_], _ => rfl
  have F19 := fun_mk (st := s_same) l19 c19 k19
  have B19 := F19.binds (ps := ["one", "other"]) fun _ _ _ _ _ _ us hl => match us, hl with | [_, _], _ => rfl
  have F20 := fun_mk (st := s_law) l20 c20 k20
  have z_tuple := PySem.W.mg_none_of KX G0 y_tuple
  have z_sorted := PySem.W.mg_none_of KX G0 y_sorted
  have z_set := PySem.W.mg_none_of KX G0 y_set
  have z_len := PySem.W.mg_none_of KX G0 y_len
  have z_range := PySem.W.mg_none_of KX G0 y_range
  have z_str := PySem.W.mg_none_of KX G0 y_str
  have z_min := PySem.W.mg_none_of KX G0 y_min
  have z_dict := PySem.W.mg_none_of KX G0 y_dict
  have z_list := PySem.W.mg_none_of KX G0 y_list
  have z_zip := PySem.W.mg_none_of KX G0 y_zip
  have z_repr := PySem.W.mg_none_of KX G0 y_repr
  have z_int := PySem.W.mg_none_of KX G0 y_int
  have z_abs := PySem.W.mg_none_of KX G0 y_abs
  refine ⟨_, _, F20, fun s v => .of_eq rfl, fun base _ _ X a ns H T hn hs => ?_⟩
  have h_law_deck := ok_law_deck (P := l.prog) (w := w) (base := base) (mg := mg) (k := 4) F1 z_list
  have h_law_put := ok_law_put (P := l.prog) (w := w) (base := base) (k := 0) F2 (PySem.W.mg_of KX G0 a2) B2 z_tuple z_sorted z_set
  have h_law_draw := ok_law_draw (P := l.prog) (w := w) (base := base) (k := 0) F3 (PySem.W.mg_of KX G0 a3) B3 z_int z_len z_abs
  have h_law_one := ok_law_one (P := l.prog) (w := w) (base := base) (k := 1) F4 (PySem.W.mg_of KX G0 a4) B4 (h_law_draw.mono (by decide)) z_len
  have h_law_word := ok_law_word (P := l.prog) (w := w) (base := base) (k := 2) F5 (PySem.W.mg_of KX G0 a5) B5 (h_law_one.mono (by decide)) z_range
  have h_law_pool := ok_law_pool (P := l.prog) (w := w) (base := base) (k := 3) F6 (PySem.W.mg_of KX G0 a6) B6 (h_law_word.mono (by decide)) z_len
  have h_law_kinds := ok_law_kinds (P := l.prog) (w := w) (base := base) (k := 4) F7 (PySem.W.mg_of KX G0 a7) B7 (h_law_pool.mono (by decide)) (h_law_draw.mono (by decide)) (h_law_one.mono (by decide))
  have h_law_unknowns := ok_law_unknowns (P := l.prog) (w := w) (base := base) (k := 1) F8 (PySem.W.mg_of KX G0 a8) B8 (h_law_draw.mono (by decide)) z_range z_len
  have h_law_store := ok_law_store (P := l.prog) (w := w) (base := base) (k := 2) F9 (PySem.W.mg_of KX G0 a9) B9 (h_law_draw.mono (by decide)) (h_law_one.mono (by decide)) z_range z_tuple z_sorted z_set
  have h_law_names := ok_law_names (P := l.prog) (w := w) (base := base) (k := 0) F10 (PySem.W.mg_of KX G0 a10) B10 z_tuple z_sorted z_set
  have h_law_orders := ok_law_orders (P := l.prog) (w := w) (base := base) (k := 0) F11 (PySem.W.mg_of KX G0 a11) B11 z_range z_len
  have h_law_plain := ok_law_plain (P := l.prog) (w := w) (base := base) (k := 1) F12 (PySem.W.mg_of KX G0 a12) B12 (h_law_names.mono (by decide)) (h_law_orders.mono (by decide)) (h_law_put.mono (by decide)) z_range z_len z_str z_min z_dict z_list z_zip
  have h_unknowns := ok_unknowns (P := l.prog) (w := w) (base := base) (k := 0) F13 (PySem.W.mg_of KX G0 a13) B13 z_tuple z_sorted z_set
  have h_store_of := ok_store_of (P := l.prog) (w := w) (base := base) (k := 0) F14 (PySem.W.mg_of KX G0 a14) B14 z_tuple z_sorted z_set
  have h_changed := ok_changed (P := l.prog) (w := w) (base := base) (k := 0) F15 (PySem.W.mg_of KX G0 a15) B15 z_tuple
  have h_renamed := ok_renamed (P := l.prog) (w := w) (base := base) (k := 1) F16 (PySem.W.mg_of KX G0 a16) B16 (h_store_of.mono (by decide)) (h_changed.mono (by decide)) z_dict
  have h_orders := ok_orders (P := l.prog) (w := w) (base := base) (k := 0) F17 (PySem.W.mg_of KX G0 a17) B17 z_range z_len
  have h_plain := ok_plain (P := l.prog) (w := w) (base := base) (k := 2) F18 (PySem.W.mg_of KX G0 a18) B18 (h_unknowns.mono (by decide)) (h_orders.mono (by decide)) (h_renamed.mono (by decide)) z_range z_len z_str z_list z_zip
  have h_same := ok_same (P := l.prog) (w := w) (base := base) (k := 3) F19 (PySem.W.mg_of KX G0 a19) B19 (h_plain.mono (by decide))
  exact law_body T h_law_deck (PySem.W.mg_of KX G0 a1) k1 B1 (by decide +kernel) (by decide +kernel) (by decide) (by decide) (by decide +kernel) (fun c hK hm G => walk_law T.fn T.pass T.guards (h_law_kinds.mono (by decide)) (h_law_unknowns.mono (by decide)) (h_law_pool.mono (by decide)) (h_law_store.mono (by decide)) (h_law_put.mono (by decide)) (h_law_one.mono (by decide)) (h_law_draw.mono (by decide)) (h_law_plain.mono (by decide)) (h_same.mono (by decide)) z_range z_dict z_list z_zip z_repr c hK hm G) hs math
end DL

namespace DL
open PySem PySem.Spec L2
def t_law_put (store : (List (List Str))) (names : (List (Str × Str))) : Pg (List (List Str)) :=
 (Pg.lcM (fun fact => (((Pg.lcA (fun value => (dget names value value)) (cutL fact (some (1 : Int)) none)).bind fun z => (.ret z)).bind fun z1 => (Pg.req ((cutL fact none (some (1 : Int))).length + z1.length ≤ sizeLine) (.ret ((cutL fact none (some (1 : Int))) ++ z1))))) store).bind fun row =>
 ((Pg.ssetR row).bind fun z2 => (.ret z2))
theorem T_law_put (store : (List (List Str))) (names : (List (Str × Str))) : ME (m_law_put [((eT (eT D.str)) store), ((eD D.str) names)]) (t_law_put store names) (eT (eT D.str)) := t_def (env := [.val ((eT (eT D.str)) store), .val ((eD D.str) names), .no, .no, .no]) rfl (show Blk d_law_put _ (t_law_put store names) _ by
 delta d_law_put t_law_put
 exact (b_asgE (ea := (eL (eT D.str))) (env' := fun row => [.val ((eT (eT D.str)) store), .val ((eD D.str) names), .val ((eL (eT D.str)) row), .no, .no]) (lcT_P (ex := (eT D.str)) (eb := (eT D.str)) (rowI_P (vS_p rfl) (i_T (e := (eT D.str)))) (lc_M (ex := (eT D.str)) (eb := (eT D.str)) (env1 := [.val ((eT (eT D.str)) store), .val ((eD D.str) names), .no, .no, .no]) rfl rfl (fun fact => ⟨_, rfl, (bin2_PE (sl3_P (vS_p rfl) noPart_p (intPart_p kD_p) (t_slT (e := D.str))) (un1_E (lcT_P (ex := D.str) (eb := D.str) (rowI_P (sl3_P (vS_p rfl) (intPart_p kD_p) noPart_p (t_slT (e := D.str))) (i_T (e := D.str))) (lc_A (ex := D.str) (eb := D.str) (env1 := [.val ((eT (eT D.str)) store), .val ((eD D.str) names), .no, .val ((eT D.str) fact), .no]) (g := fun value => (dget names value value)) rfl rfl (fun value => ⟨_, rfl, (getT_P (e := D.str) (vS_p rfl) (vS_p rfl) (vS_p rfl))⟩) _)) fun z => (MP.me (e := (eT D.str)) (t_tupleL (e := D.str)))) fun z1 => (t_addT (e := D.str)))⟩) _)) (fun _ => rfl) (fun row =>
 b_retFE (er := (eT (eT D.str))) (un1_E (un1_PE (vS_p rfl) t_ssetRL) fun z2 => (MP.me (e := (eT (eT D.str))) (t_tupleL (e := (eT D.str))))))))

theorem T_oneL {α : Type} {e : α → D} (l : List α) : ME (m_law_one [.deck, eL e l]) (t_one l) e := t_def (env := [.val .deck, .val (eL e l)]) rfl (show Blk d_law_one _ (t_one l) _ by
  delta d_law_one t_one
  exact b_retFE (bin2_PE (vS_p rfl) (callT_e (argP (vS_p rfl) (argP (un1_P (vS_p rfl) (t_lenL (e := e))) (arg0 t_draw)))) fun _ => t_ixL (e := e)))
theorem T_oneT {α : Type} {e : α → D} (l : List α) : ME (m_law_one [.deck, eT e l]) (t_one l) e := t_def (env := [.val .deck, .val (eT e l)]) rfl (show Blk d_law_one _ (t_one l) _ by
  delta d_law_one t_one
  exact b_retFE (bin2_PE (vS_p rfl) (callT_e (argP (vS_p rfl) (argP (un1_P (vS_p rfl) (t_lenT (e := e))) (arg0 t_draw)))) fun _ => t_ixT (e := e)))
theorem T_oneS (z : Str) : ME (m_law_one [.deck, .str z]) (t_oneS z) D.str := t_def (env := [.val .deck, .val (.str z)]) rfl (show Blk d_law_one _ (t_oneS z) _ by
  delta d_law_one t_oneS
  refine b_retFE (ME.rw (bin2_PE (vS_p rfl) (callT_e (argP (vS_p rfl) (argE (un1_PE (vS_p rfl) t_lenS) fun _ => arg0 t_draw))) fun _ => t_ixS) ?_)
  unfold Pg.req
  split <;> rfl)

def t_law_word : Pg Str :=
 (t_one [(1 : Int), (1 : Int), (2 : Int), (3 : Int), (8 : Int)]).bind fun size =>
 (((Pg.rng1 size).bind fun z => (Pg.lcM (fun k => (t_oneS (Str.ofString "abcmyz"))) z)).bind fun z1 => (Pg.join (Str.ofString "") z1))
theorem T_law_word : ME (m_law_word [.deck]) (t_law_word) D.str := t_def (env := [.val (eK ()), .no, .no]) rfl (show Blk d_law_word _ (t_law_word) _ by
 delta d_law_word t_law_word
 exact (b_asgE (ea := D.int) (env' := fun size => [.val (eK ()), .val (D.int size), .no]) (callT_e (argP (vS_p rfl) (argP (lstT_p (argPP kD_p (argPP kD_p (argPP kD_p (argPP kD_p (argPP kD_p (arg0P (disp_e (v := ((eL D.int) [(1 : Int), (1 : Int), (2 : Int), (3 : Int), (8 : Int)])) (by show 5 ≤ 1000; decide) rfl)))))))) (arg0 (T_oneL (e := D.int) _))))) (fun _ => rfl) (fun size =>
 b_retFE (er := D.str) (un1_E (lcT_E (ex := D.int) (eb := D.str) (rng1_P (vS_p rfl)) fun z => lc_M (ex := D.int) (eb := D.str) (env1 := [.val (eK ()), .val (D.int size), .no]) rfl rfl (fun k => ⟨_, rfl, (callT_e (argP (vS_p rfl) (argP kD_p (arg0 (T_oneS _)))))⟩) _) fun z1 => t_joinL))))

def t_law_pool (many : Int) : Pg (List Str) :=
 (Pg.whF (fun found => (Pg.ret (decide ((found.length : Int) < many)))) (fun found =>
 ((t_law_word).bind fun word =>
 (Pg.whF (fun word1 => (Pg.ret (decide (word1 ∈ found)))) (fun word1 =>
 ((((Pg.req (word1.length ≤ sizeLine) (.ret (word1.length : Int))).bind fun z => (.ret ((decide (z = (8 : Int)))))).bind fun c => if c = true then ((Pg.req (word1.length ≤ sizeLine) (.ret (cutS word1 (some (1 : Int)) none))).bind fun z1 => (Pg.req (z1.length + (Str.ofString "q").length ≤ sizeLine) (.ret (z1 ++ (Str.ofString "q"))))) else (Pg.req (word1.length + (Str.ofString "q").length ≤ sizeLine) (.ret (word1 ++ (Str.ofString "q"))))).bind fun word2 =>
 .ret word2 : Pg Str)) 1000 word).bind fun word3 =>
 Pg.app found word3 fun found1 =>
 .ret found1 : Pg (List Str))) 100000 ([] : (List Str))).bind fun found2 =>
 .ret found2
theorem T_law_pool (many : Int) : ME (m_law_pool [.deck, (D.int many)]) (t_law_pool many) (eL D.str) := t_def (env := [.val (eK ()), .val (D.int many), .no, .no]) rfl (show Blk d_law_pool _ (t_law_pool many) _ by
 delta d_law_pool t_law_pool
 exact (b_asgO (d := ((eL D.str) ([] : (List Str)))) (env' := [.val (eK ()), .val (D.int many), .own ((eL D.str) ([] : (List Str))), .no]) (lstT_p (arg0P (disp_e (v := ((eL D.str) ([] : (List Str)))) (by show 0 ≤ 1000; decide) rfl))) rfl rfl
 (b_seqN (b_wh (mk := (fun s => [.val (eK ()), .val (D.int many), .own ((eL D.str) s), .no] : (List Str) → Env')) (s0 := ([] : (List Str))) 100000 rfl (fun found => (MP.me (e := D.bl) (a := (decide ((found.length : Int) < many))) (bin2_PP (un1_P (vO_p rfl) (t_lenL (e := D.str))) (vS_p rfl) t_ltI))) (fun found => b_asgE (ea := D.str) (env' := fun word => [.val (eK ()), .val (D.int many), .own ((eL D.str) found), .val (D.str word)]) (callT_e (argP (vS_p rfl) (arg0 (T_law_word)))) (fun _ => rfl) (fun word =>
 b_seqN (b_wh (mk := (fun s => [.val (eK ()), .val (D.int many), .own ((eL D.str) found), .val (D.str s)] : Str → Env')) (s0 := word) 1000 rfl (fun word1 => (MP.me (e := D.bl) (a := (decide (word1 ∈ found))) (bin2_PP (vS_p rfl) (vO_p rfl) (t_inL (e := D.str) EqE.str (by decide) word1 found)))) (fun word1 => b_asgE (ea := D.str) (env' := fun word2 => [.val (eK ()), .val (D.int many), .own ((eL D.str) found), .val (D.str word2)]) (ifT_E (e := D.str) (bin2_EP (un1_PE (vS_p rfl) t_lenS) kD_p fun z => (MP.me (e := D.bl) (t_eq (e := D.int) EqE.int (by decide) z (8 : Int)))) (bin2_EP (sl3_PE (vS_p rfl) (intPart_p kD_p) noPart_p t_slS) kD_p fun z1 => t_addS) (bin2_PPE (vS_p rfl) kD_p t_addS)) (fun _ => rfl) (fun word2 =>
 b_endG (s := word2) rfl))) (fun word3 _ =>
 b_app (ea := D.str) (xs := found) (x := word3) (env' := fun found1 => [.val (eK ()), .val (D.int many), .own ((eL D.str) found1), .val (D.str word3)]) rfl (vS_p rfl) (fun _ => rfl) (fun found1 =>
 b_endG (s := found1) rfl))))) (fun found2 _ =>
 b_frz (env' := [.val (eK ()), .val (D.int many), .val ((eL D.str) found2), .no]) rfl (b_retF (er := (eL D.str)) (r := found2) (vS_p rfl))))))

def t_law_kinds : Pg (List (Str × Int)) :=
 (((Pg.draws (2 : Int)).bind fun z => (.ret (((2 : Int) + z)))).bind fun z1 => (t_law_pool z1)).bind fun row =>
 (Pg.lcM (fun name => ((t_one [(1 : Int), (2 : Int), (2 : Int), (3 : Int), (4 : Int)]).bind fun z2 => (.ret (name, z2)))) row)
theorem T_law_kinds : ME (m_law_kinds [.deck]) (t_law_kinds) (eL (eP D.str D.int)) := t_def (env := [.val (eK ()), .no, .no]) rfl (show Blk d_law_kinds _ (t_law_kinds) _ by
 delta d_law_kinds t_law_kinds
 exact (b_asgE (ea := (eL D.str)) (env' := fun row => [.val (eK ()), .val ((eL D.str) row), .no]) (callT_e (argP (vS_p rfl) (argE (bin2_PE kD_p (callT_e (argP (vS_p rfl) (argP kD_p (arg0 t_draw)))) fun z => (MP.me (e := D.int) t_addI)) fun z1 => (arg0 (T_law_pool _))))) (fun _ => rfl) (fun row =>
 b_retFE (er := (eL (eP D.str D.int))) (lcT_P (ex := D.str) (eb := (eP D.str D.int)) (rowI_P (vS_p rfl) (i_L (e := D.str))) (lc_M (ex := D.str) (eb := (eP D.str D.int)) (env1 := [.val (eK ()), .val ((eL D.str) row), .no]) rfl rfl (fun name => ⟨_, rfl, (tupT_e (argP (vS_p rfl) (argE (callT_e (argP (vS_p rfl) (argP (lstT_p (argPP kD_p (argPP kD_p (argPP kD_p (argPP kD_p (argPP kD_p (arg0P (disp_e (v := ((eL D.int) [(1 : Int), (2 : Int), (2 : Int), (3 : Int), (4 : Int)])) (by show 5 ≤ 1000; decide) rfl)))))))) (arg0 (T_oneL (e := D.int) _))))) fun z2 => (arg0 (MP.me (e := (eP D.str D.int)) (a := (name, z2)) (disp_e (v := ((eP D.str D.int) (name, z2))) (by show 2 ≤ 1000; decide) rfl))))))⟩) _)))))

def t_law_unknowns (many : Int) : Pg (List Str) :=
 (Pg.ret ([] : (List Str))).bind fun found => (Pg.ret [(Str.ofString "?1"), (Str.ofString "?2"), (Str.ofString "?3"), (Str.ofString "?9"), (Str.ofString "?10"), (Str.ofString "?21"), (Str.ofString "?500"), (Str.ofString "?99999")]).bind fun some_ =>
 ((Pg.rng1 many).bind fun z1 => Pg.foldP (fun k (found1, some_1) =>
 ((Pg.draws (some_1.length : Int)).bind fun z => Pg.apop found1 some_1 z fun found2 some_2 =>
 .ret (found2, some_2) : Pg ((List Str) × (List Str)))) z1 (found, some_)).bind fun (found3, some_3) =>
 .ret found3
theorem T_law_unknowns (many : Int) : ME (m_law_unknowns [.deck, (D.int many)]) (t_law_unknowns many) (eL D.str) := t_def (env := [.val (eK ()), .val (D.int many), .no, .no, .no]) rfl (show Blk d_law_unknowns _ (t_law_unknowns many) _ by
 delta d_law_unknowns t_law_unknowns
 exact (b_par2 (ea := (eL D.str)) (eb := (eL D.str)) (env' := fun found some_ => [.val (eK ()), .val (D.int many), .own ((eL D.str) found), .own ((eL D.str) some_), .no]) (MP.me (e := (eL D.str)) (a := ([] : (List Str))) (lstT_p (arg0P (disp_e (v := ((eL D.str) ([] : (List Str)))) (by show 0 ≤ 1000; decide) rfl)))) (MP.me (e := (eL D.str)) (a := [(Str.ofString "?1"), (Str.ofString "?2"), (Str.ofString "?3"), (Str.ofString "?9"), (Str.ofString "?10"), (Str.ofString "?21"), (Str.ofString "?500"), (Str.ofString "?99999")]) (lstT_p (argPP kD_p (argPP kD_p (argPP kD_p (argPP kD_p (argPP kD_p (argPP kD_p (argPP kD_p (argPP kD_p (arg0P (disp_e (v := ((eL D.str) [(Str.ofString "?1"), (Str.ofString "?2"), (Str.ofString "?3"), (Str.ofString "?9"), (Str.ofString "?10"), (Str.ofString "?21"), (Str.ofString "?500"), (Str.ofString "?99999")])) (by show 8 ≤ 1000; decide) rfl)))))))))))) rfl (fun _ _ => rfl) (fun found some_ =>
 b_seqN (b_forE (ex := D.int) (mk := (fun s => [.val (eK ()), .val (D.int many), .own ((eL D.str) s.1), .own ((eL D.str) s.2), .no] : ((List Str) × (List Str)) → Env')) (s0 := (found, some_)) (rng1_P (vS_p rfl)) rfl (fun k ⟨found1, some_1⟩ => ⟨_, rfl, b_apop (ea := D.str) (la := found1) (lb := some_1) (env' := fun found2 some_2 => [.val (eK ()), .val (D.int many), .own ((eL D.str) found2), .own ((eL D.str) some_2), .val (D.int k)]) rfl rfl (callT_e (argP (vS_p rfl) (argP (un1_P (vO_p rfl) (t_lenL (e := D.str))) (arg0 t_draw)))) (fun _ _ => rfl) (fun found2 some_2 =>
 b_endG (s := (found2, some_2)) rfl)⟩)) (fun ⟨found3, some_3⟩ _ =>
 b_frz (env' := [.val (eK ()), .val (D.int many), .val ((eL D.str) found3), .own ((eL D.str) some_3), .no]) rfl (b_retF (er := (eL D.str)) (r := found3) (vS_p rfl))))))

def t_law_store (kinds : (List (Str × Int))) (values : (List Str)) (many : Int) : Pg (List (List Str)) :=
 (((Pg.draws (many + (1 : Int))).bind fun z => Pg.rng1 z).bind fun z5 => Pg.foldP (fun k row =>
 ((t_one kinds).bind fun (name, width) =>
 ((((Pg.rng1 width).bind fun z1 => (Pg.lcM (fun at_ => (t_one values)) z1)).bind fun z2 => (.ret z2)).bind fun z3 => (Pg.req ([name].length + z3.length ≤ sizeLine) (.ret ([name] ++ z3)))).bind fun z4 => Pg.app row z4 fun row1 =>
 .ret row1 : Pg (List (List Str)))) z5 ([] : (List (List Str)))).bind fun row2 =>
 ((Pg.ssetR row2).bind fun z6 => (.ret z6))
theorem T_law_store (kinds : (List (Str × Int))) (values : (List Str)) (many : Int) : ME (m_law_store [.deck, ((eL (eP D.str D.int)) kinds), ((eL D.str) values), (D.int many)]) (t_law_store kinds values many) (eT (eT D.str)) := t_def (env := [.val (eK ()), .val ((eL (eP D.str D.int)) kinds), .val ((eL D.str) values), .val (D.int many), .no, .no, .no, .no, .no]) rfl (show Blk d_law_store _ (t_law_store kinds values many) _ by
 delta d_law_store t_law_store
 exact (b_asgO (d := ((eL (eT D.str)) ([] : (List (List Str))))) (env' := [.val (eK ()), .val ((eL (eP D.str D.int)) kinds), .val ((eL D.str) values), .val (D.int many), .own ((eL (eT D.str)) ([] : (List (List Str)))), .no, .no, .no, .no]) (lstT_p (arg0P (disp_e (v := ((eL (eT D.str)) ([] : (List (List Str))))) (by show 0 ≤ 1000; decide) rfl))) rfl rfl
 (b_seqN (b_forE (ex := D.int) (mk := (fun s => [.val (eK ()), .val ((eL (eP D.str D.int)) kinds), .val ((eL D.str) values), .val (D.int many), .own ((eL (eT D.str)) s), .no, .no, .no, .no] : (List (List Str)) → Env')) (s0 := ([] : (List (List Str)))) (rng1_E (callT_e (argP (vS_p rfl) (argP (bin2_PP (vS_p rfl) kD_p t_addI) (arg0 t_draw))))) rfl (fun k row => ⟨_, rfl, b_unpE (ea := (eP D.str D.int)) (env' := fun a => [.val (eK ()), .val ((eL (eP D.str D.int)) kinds), .val ((eL D.str) values), .val (D.int many), .own ((eL (eT D.str)) row), .val (D.int k), .val (D.str a.1), .val (D.int a.2), .no]) (callT_e (argP (vS_p rfl) (argP (vS_p rfl) (arg0 (T_oneL (e := (eP D.str D.int)) _))))) (fun _ => rfl) (fun ⟨name, width⟩ =>
 b_appE (ea := (eT D.str)) (xs := row) (env' := fun row1 => [.val (eK ()), .val ((eL (eP D.str D.int)) kinds), .val ((eL D.str) values), .val (D.int many), .own ((eL (eT D.str)) row1), .val (D.int k), .val (D.str name), .val (D.int width), .no]) rfl (bin2_PE (tupT_p (argPP (vS_p rfl) (arg0P (disp_e (v := ((eT D.str) [name])) (by show 1 ≤ 1000; decide) rfl)))) (un1_E (lcT_E (ex := D.int) (eb := D.str) (rng1_P (vS_p rfl)) fun z1 => lc_M (ex := D.int) (eb := D.str) (env1 := [.val (eK ()), .val ((eL (eP D.str D.int)) kinds), .val ((eL D.str) values), .val (D.int many), .own ((eL (eT D.str)) row), .val (D.int k), .val (D.str name), .val (D.int width), .no]) rfl rfl (fun at_ => ⟨_, rfl, (callT_e (argP (vS_p rfl) (argP (vS_p rfl) (arg0 (T_oneL (e := D.str) _)))))⟩) _) fun z2 => (MP.me (e := (eT D.str)) (t_tupleL (e := D.str)))) fun z3 => (t_addT (e := D.str))) (fun _ => rfl) (fun row1 =>
 b_endG (s := row1) rfl))⟩)) (fun row2 _ =>
 b_frz (env' := [.val (eK ()), .val ((eL (eP D.str D.int)) kinds), .val ((eL D.str) values), .val (D.int many), .val ((eL (eT D.str)) row2), .no, .no, .no, .no]) rfl (b_retFE (er := (eT (eT D.str))) (un1_E (un1_PE (vW_p rfl) t_ssetRL) fun z6 => (MP.me (e := (eT (eT D.str))) (t_tupleL (e := (eT D.str))))))))))

def t_law_names (store : (List (List Str))) : Pg (List Str) :=
 (Pg.foldP (fun fact row =>
 ((Pg.lcB (fun value => ((Pg.atS value (0 : Int)).bind fun z => (.ret ((decide (z = (Str.ofString "?"))))))) (fun value => (Pg.ret value)) (cutL fact (some (1 : Int)) none)).bind fun z1 => Pg.ext row z1 fun row1 =>
 .ret row1 : Pg (List Str))) store ([] : (List Str))).bind fun row2 =>
 ((Pg.sset row2).bind fun z2 => (.ret z2))
theorem T_law_names (store : (List (List Str))) : ME (m_law_names [((eT (eT D.str)) store)]) (t_law_names store) (eT D.str) := t_def (env := [.val ((eT (eT D.str)) store), .no, .no, .no]) rfl (show Blk d_law_names _ (t_law_names store) _ by
 delta d_law_names t_law_names
 exact (b_asgO (d := ((eL D.str) ([] : (List Str)))) (env' := [.val ((eT (eT D.str)) store), .own ((eL D.str) ([] : (List Str))), .no, .no]) (lstT_p (arg0P (disp_e (v := ((eL D.str) ([] : (List Str)))) (by show 0 ≤ 1000; decide) rfl))) rfl rfl
 (b_seqN (b_forP (ex := (eT D.str)) (mk := (fun s => [.val ((eT (eT D.str)) store), .own ((eL D.str) s), .no, .no] : (List Str) → Env')) (s0 := ([] : (List Str))) (rowI_P (vS_p rfl) (i_T (e := (eT D.str)))) rfl (fun fact row => ⟨_, rfl, b_extE (ea := D.str) (xs := row) (env' := fun row1 => [.val ((eT (eT D.str)) store), .own ((eL D.str) row1), .val ((eT D.str) fact), .no]) rfl (lcT_P (ex := D.str) (eb := D.str) (rowI_P (sl3_P (vS_p rfl) (intPart_p kD_p) noPart_p (t_slT (e := D.str))) (i_T (e := D.str))) (lc_B (ex := D.str) (eb := D.str) (env1 := [.val ((eT (eT D.str)) store), .own ((eL D.str) row), .val ((eT D.str) fact), .no]) (test := fun value => ((Pg.atS value (0 : Int)).bind fun z => (.ret ((decide (z = (Str.ofString "?"))))))) (elt := fun value => (Pg.ret value)) rfl rfl (fun value => ⟨_, rfl, (bin2_EP (bin2_PPE (vS_p rfl) kD_p t_ixS) kD_p fun z => (MP.me (e := D.bl) (t_eq (e := D.str) EqE.str (by decide) z (Str.ofString "?")))), (MP.me (e := D.str) (a := value) (vS_p rfl))⟩) _)) (fun _ => rfl) (fun _ => rfl) (fun row1 =>
 b_endG (s := row1) rfl)⟩)) (fun row2 _ =>
 b_frz (env' := [.val ((eT (eT D.str)) store), .val ((eL D.str) row2), .no, .no]) rfl (b_retFE (er := (eT D.str)) (un1_E (un1_PE (vW_p rfl) t_sset) fun z2 => (MP.me (e := (eT D.str)) (t_tupleL (e := D.str)))))))))

def t_law_orders (items : (List Str)) : Pg (List (List Str)) :=
 (Pg.ret [([] : (List Str))]).bind fun found =>
 ((Pg.rng1 (items.length : Int)).bind fun z1 => Pg.foldP (fun k found1 =>
 ((Pg.foldP (fun some_ later =>
 (((Pg.lcB (fun item => (Pg.ret (!(decide (item ∈ some_))))) (fun item => (Pg.req (some_.length + [item].length ≤ sizeLine) (.ret (some_ ++ [item])))) items).bind fun z => (Pg.req (later.length + z.length ≤ sizeLine) (.ret (later ++ z)))).bind fun later1 =>
 .ret later1 : Pg (List (List Str)))) found1 ([] : (List (List Str)))).bind fun later2 =>
 .ret later2 : Pg (List (List Str)))) z1 found).bind fun found2 =>
 .ret found2
theorem T_law_orders (items : (List Str)) : ME (m_law_orders [((eT D.str) items)]) (t_law_orders items) (eL (eT D.str)) := t_def (env := [.val ((eT D.str) items), .no, .no, .no, .no, .no]) rfl (show Blk d_law_orders _ (t_law_orders items) _ by
 delta d_law_orders t_law_orders
 exact (b_asgE (ea := (eL (eT D.str))) (env' := fun found => [.val ((eT D.str) items), .val ((eL (eT D.str)) found), .no, .no, .no, .no]) (MP.me (e := (eL (eT D.str))) (a := [([] : (List Str))]) (lstT_p (argPP (tupT_p (arg0P (disp_e (v := ((eT D.str) ([] : (List Str)))) (by show 0 ≤ 1000; decide) rfl))) (arg0P (disp_e (v := ((eL (eT D.str)) [([] : (List Str))])) (by show 1 ≤ 1000; decide) rfl))))) (fun _ => rfl) (fun found =>
 b_seqN (b_forE (ex := D.int) (mk := (fun s => [.val ((eT D.str) items), .val ((eL (eT D.str)) s), .no, .no, .no, .no] : (List (List Str)) → Env')) (s0 := found) (rng1_P (un1_P (vS_p rfl) (t_lenT (e := D.str)))) rfl (fun k found1 => ⟨_, rfl, b_asg (d := ((eL (eT D.str)) ([] : (List (List Str))))) (env' := [.val ((eT D.str) items), .val ((eL (eT D.str)) found1), .val (D.int k), .val ((eL (eT D.str)) ([] : (List (List Str)))), .no, .no]) (lstT_p (arg0P (disp_e (v := ((eL (eT D.str)) ([] : (List (List Str))))) (by show 0 ≤ 1000; decide) rfl))) rfl
 (b_seqN (b_forP (ex := (eT D.str)) (mk := (fun s => [.val ((eT D.str) items), .val ((eL (eT D.str)) found1), .val (D.int k), .val ((eL (eT D.str)) s), .no, .no] : (List (List Str)) → Env')) (s0 := ([] : (List (List Str)))) (rowI_P (vS_p rfl) (i_L (e := (eT D.str)))) rfl (fun some_ later => ⟨_, rfl, b_asgE (ea := (eL (eT D.str))) (env' := fun later1 => [.val ((eT D.str) items), .val ((eL (eT D.str)) found1), .val (D.int k), .val ((eL (eT D.str)) later1), .val ((eT D.str) some_), .no]) (bin2_PE (vS_p rfl) (lcT_P (ex := D.str) (eb := (eT D.str)) (rowI_P (vS_p rfl) (i_T (e := D.str))) (lc_B (ex := D.str) (eb := (eT D.str)) (env1 := [.val ((eT D.str) items), .val ((eL (eT D.str)) found1), .val (D.int k), .val ((eL (eT D.str)) later), .val ((eT D.str) some_), .no]) (test := fun item => (Pg.ret (!(decide (item ∈ some_))))) (elt := fun item => (Pg.req (some_.length + [item].length ≤ sizeLine) (.ret (some_ ++ [item])))) rfl rfl (fun item => ⟨_, rfl, (MP.me (e := D.bl) (a := (!(decide (item ∈ some_)))) (bin2_PP (vS_p rfl) (vS_p rfl) (t_notIn (t_inT (e := D.str) EqE.str (by decide) item some_)))), (bin2_PPE (vS_p rfl) (tupT_p (argPP (vS_p rfl) (arg0P (disp_e (v := ((eT D.str) [item])) (by show 1 ≤ 1000; decide) rfl)))) (t_addT (e := D.str)))⟩) _)) fun z => (t_addL (e := (eT D.str)))) (fun _ => rfl) (fun later1 =>
 b_endG (s := later1) rfl)⟩)) (fun later2 _ =>
 b_asg (d := ((eL (eT D.str)) later2)) (env' := [.val ((eT D.str) items), .val ((eL (eT D.str)) later2), .val (D.int k), .val ((eL (eT D.str)) later2), .no, .no]) (vS_p rfl) rfl
 (b_endG (s := later2) rfl)))⟩)) (fun found2 _ =>
 b_retF (er := (eL (eT D.str))) (r := found2) (vS_p rfl)))))

def t_law_plain (store : (List (List Str))) : Pg (List (List Str)) :=
 (t_law_names store).bind fun some_ =>
 ((Pg.rng1 (some_.length : Int)).bind fun z1 => (Pg.lcM (fun k => ((Pg.req (0 ≤ (k + (1 : Int)) ∧ (k + (1 : Int)) < 10000000000) (.ret (Str.ofString (toString (k + (1 : Int)))))).bind fun z => (Pg.req ((Str.ofString "?").length + z.length ≤ sizeLine) (.ret ((Str.ofString "?") ++ z))))) z1)).bind fun new =>
 (((t_law_orders some_).bind fun z3 => (Pg.lcM (fun order => (t_law_put store (dmerge (order.zip new)))) z3)).bind fun z4 => (Pg.minE (eT (eT D.str)) z4))
theorem T_law_plain (store : (List (List Str))) : ME (m_law_plain [((eT (eT D.str)) store)]) (t_law_plain store) (eT (eT D.str)) := t_def (env := [.val ((eT (eT D.str)) store), .no, .no, .no, .no]) rfl (show Blk d_law_plain _ (t_law_plain store) _ by
 delta d_law_plain t_law_plain
 exact (b_asgE (ea := (eT D.str)) (env' := fun some_ => [.val ((eT (eT D.str)) store), .val ((eT D.str) some_), .no, .no, .no]) (callT_e (argP (vS_p rfl) (arg0 (T_law_names _)))) (fun _ => rfl) (fun some_ =>
 b_asgE (ea := (eL D.str)) (env' := fun new => [.val ((eT (eT D.str)) store), .val ((eT D.str) some_), .val ((eL D.str) new), .no, .no]) (lcT_E (ex := D.int) (eb := D.str) (rng1_P (un1_P (vS_p rfl) (t_lenT (e := D.str)))) fun z1 => lc_M (ex := D.int) (eb := D.str) (env1 := [.val ((eT (eT D.str)) store), .val ((eT D.str) some_), .no, .no, .no]) rfl rfl (fun k => ⟨_, rfl, (bin2_PE kD_p (un1_PE (bin2_PP (vS_p rfl) kD_p t_addI) t_strI) fun z => t_addS)⟩) _) (fun _ => rfl) (fun new =>
 b_retFE (er := (eT (eT D.str))) (un1_E (lcT_E (ex := (eT D.str)) (eb := (eT (eT D.str))) (rowI_I (e := (eT D.str)) (callT_e (argP (vS_p rfl) (arg0 (T_law_orders _)))) fun _ => (i_L (e := (eT D.str)))) fun z3 => lc_M (ex := (eT D.str)) (eb := (eT (eT D.str))) (env1 := [.val ((eT (eT D.str)) store), .val ((eT D.str) some_), .val ((eL D.str) new), .no, .no]) rfl rfl (fun order => ⟨_, rfl, (callT_e (argP (vS_p rfl) (argP (un1_P (bin2_PP (vS_p rfl) (vS_p rfl) (lzip_P (e := D.str) (e2 := D.str) rfl rfl (.inl fun _ => rfl))) (t_dictL (e := D.str))) (arg0 (T_law_put _ _)))))⟩) _) fun z4 => (t_min (e := (eT (eT D.str)))))))))

def t_unknowns (store : (List (List Str))) : Pg (List Str) :=
 (Pg.foldP (fun fact found =>
 ((Pg.lcB (fun value => ((Pg.atS value (0 : Int)).bind fun z => (.ret ((decide (z = (Str.ofString "?"))))))) (fun value => (Pg.ret value)) (cutL fact (some (1 : Int)) none)).bind fun z1 => Pg.ext found z1 fun found1 =>
 .ret found1 : Pg (List Str))) store ([] : (List Str))).bind fun found2 =>
 ((Pg.sset found2).bind fun z2 => (.ret z2))
theorem T_unknowns (store : (List (List Str))) : ME (m_unknowns [((eT (eT D.str)) store)]) (t_unknowns store) (eT D.str) := t_def (env := [.val ((eT (eT D.str)) store), .no, .no, .no]) rfl (show Blk d_unknowns _ (t_unknowns store) _ by
 delta d_unknowns t_unknowns
 exact (b_asgO (d := ((eL D.str) ([] : (List Str)))) (env' := [.val ((eT (eT D.str)) store), .own ((eL D.str) ([] : (List Str))), .no, .no]) (lstT_p (arg0P (disp_e (v := ((eL D.str) ([] : (List Str)))) (by show 0 ≤ 1000; decide) rfl))) rfl rfl
 (b_seqN (b_forP (ex := (eT D.str)) (mk := (fun s => [.val ((eT (eT D.str)) store), .own ((eL D.str) s), .no, .no] : (List Str) → Env')) (s0 := ([] : (List Str))) (rowI_P (vS_p rfl) (i_T (e := (eT D.str)))) rfl (fun fact found => ⟨_, rfl, b_extE (ea := D.str) (xs := found) (env' := fun found1 => [.val ((eT (eT D.str)) store), .own ((eL D.str) found1), .val ((eT D.str) fact), .no]) rfl (lcT_P (ex := D.str) (eb := D.str) (rowI_P (sl3_P (vS_p rfl) (intPart_p kD_p) noPart_p (t_slT (e := D.str))) (i_T (e := D.str))) (lc_B (ex := D.str) (eb := D.str) (env1 := [.val ((eT (eT D.str)) store), .own ((eL D.str) found), .val ((eT D.str) fact), .no]) (test := fun value => ((Pg.atS value (0 : Int)).bind fun z => (.ret ((decide (z = (Str.ofString "?"))))))) (elt := fun value => (Pg.ret value)) rfl rfl (fun value => ⟨_, rfl, (bin2_EP (bin2_PPE (vS_p rfl) kD_p t_ixS) kD_p fun z => (MP.me (e := D.bl) (t_eq (e := D.str) EqE.str (by decide) z (Str.ofString "?")))), (MP.me (e := D.str) (a := value) (vS_p rfl))⟩) _)) (fun _ => rfl) (fun _ => rfl) (fun found1 =>
 b_endG (s := found1) rfl)⟩)) (fun found2 _ =>
 b_frz (env' := [.val ((eT (eT D.str)) store), .val ((eL D.str) found2), .no, .no]) rfl (b_retFE (er := (eT D.str)) (un1_E (un1_PE (vW_p rfl) t_sset) fun z2 => (MP.me (e := (eT D.str)) (t_tupleL (e := D.str)))))))))

def t_store_of (facts : (List (List Str))) : Pg (List (List Str)) :=
 ((Pg.ssetR facts).bind fun z => (.ret z))
theorem T_store_of (facts : (List (List Str))) : ME (m_store_of [((eL (eT D.str)) facts)]) (t_store_of facts) (eT (eT D.str)) := t_def (env := [.val ((eL (eT D.str)) facts)]) rfl (show Blk d_store_of _ (t_store_of facts) _ by
 delta d_store_of t_store_of
 exact (b_retFE (er := (eT (eT D.str))) (un1_E (un1_PE (vS_p rfl) t_ssetRL) fun z => (MP.me (e := (eT (eT D.str))) (t_tupleL (e := (eT D.str)))))))

def t_changed (fact : (List Str)) (names : (List (Str × Str))) : Pg (List Str) :=
 (((Pg.lcA (fun value => (dget names value value)) (cutL fact (some (1 : Int)) none)).bind fun z => (.ret z)).bind fun z1 => (Pg.req ((cutL fact none (some (1 : Int))).length + z1.length ≤ sizeLine) (.ret ((cutL fact none (some (1 : Int))) ++ z1))))
theorem T_changed (fact : (List Str)) (names : (List (Str × Str))) : ME (m_changed [((eT D.str) fact), ((eD D.str) names)]) (t_changed fact names) (eT D.str) := t_def (env := [.val ((eT D.str) fact), .val ((eD D.str) names), .no]) rfl (show Blk d_changed _ (t_changed fact names) _ by
 delta d_changed t_changed
 exact (b_retFE (er := (eT D.str)) (bin2_PE (sl3_P (vS_p rfl) noPart_p (intPart_p kD_p) (t_slT (e := D.str))) (un1_E (lcT_P (ex := D.str) (eb := D.str) (rowI_P (sl3_P (vS_p rfl) (intPart_p kD_p) noPart_p (t_slT (e := D.str))) (i_T (e := D.str))) (lc_A (ex := D.str) (eb := D.str) (env1 := [.val ((eT D.str) fact), .val ((eD D.str) names), .no]) (g := fun value => (dget names value value)) rfl rfl (fun value => ⟨_, rfl, (getT_P (e := D.str) (vS_p rfl) (vS_p rfl) (vS_p rfl))⟩) _)) fun z => (MP.me (e := (eT D.str)) (t_tupleL (e := D.str)))) fun z1 => (t_addT (e := D.str)))))

def t_renamed (store : (List (List Str))) (pairs : (List (Str × Str))) : Pg (List (List Str)) :=
 (Pg.ret (dmerge pairs)).bind fun names =>
 ((Pg.lcM (fun fact => (t_changed fact names)) store).bind fun z => (t_store_of z))
theorem T_renamed (store : (List (List Str))) (pairs : (List (Str × Str))) : ME (m_renamed [((eT (eT D.str)) store), ((eT (eP D.str D.str)) pairs)]) (t_renamed store pairs) (eT (eT D.str)) := t_def (env := [.val ((eT (eT D.str)) store), .val ((eT (eP D.str D.str)) pairs), .no, .no]) rfl (show Blk d_renamed _ (t_renamed store pairs) _ by
 delta d_renamed t_renamed
 exact (b_asgE (ea := (eD D.str)) (env' := fun names => [.val ((eT (eT D.str)) store), .val ((eT (eP D.str D.str)) pairs), .val ((eD D.str) names), .no]) (MP.me (e := (eD D.str)) (a := (dmerge pairs)) (un1_P (vS_p rfl) (t_dictT (e := D.str)))) (fun _ => rfl) (fun names =>
 b_retFE (er := (eT (eT D.str))) (callT_e (argE (lcT_P (ex := (eT D.str)) (eb := (eT D.str)) (rowI_P (vS_p rfl) (i_T (e := (eT D.str)))) (lc_M (ex := (eT D.str)) (eb := (eT D.str)) (env1 := [.val ((eT (eT D.str)) store), .val ((eT (eP D.str D.str)) pairs), .val ((eD D.str) names), .no]) rfl rfl (fun fact => ⟨_, rfl, (callT_e (argP (vS_p rfl) (argP (vS_p rfl) (arg0 (T_changed _ _)))))⟩) _)) fun z => (arg0 (T_store_of _)))))))

def t_renamed2 (store : (List (List Str))) (pairs : (List (Str × Str))) : Pg (List (List Str)) :=
 (Pg.ret (dmerge pairs)).bind fun names =>
 ((Pg.lcM (fun fact => (t_changed fact names)) store).bind fun z => (t_store_of z))
theorem T_renamed2 (store : (List (List Str))) (pairs : (List (Str × Str))) : ME (m_renamed [((eT (eT D.str)) store), ((eL (eP D.str D.str)) pairs)]) (t_renamed2 store pairs) (eT (eT D.str)) := t_def (env := [.val ((eT (eT D.str)) store), .val ((eL (eP D.str D.str)) pairs), .no, .no]) rfl (show Blk d_renamed _ (t_renamed2 store pairs) _ by
 delta d_renamed t_renamed2
 exact (b_asgE (ea := (eD D.str)) (env' := fun names => [.val ((eT (eT D.str)) store), .val ((eL (eP D.str D.str)) pairs), .val ((eD D.str) names), .no]) (MP.me (e := (eD D.str)) (a := (dmerge pairs)) (un1_P (vS_p rfl) (t_dictL (e := D.str)))) (fun _ => rfl) (fun names =>
 b_retFE (er := (eT (eT D.str))) (callT_e (argE (lcT_P (ex := (eT D.str)) (eb := (eT D.str)) (rowI_P (vS_p rfl) (i_T (e := (eT D.str)))) (lc_M (ex := (eT D.str)) (eb := (eT D.str)) (env1 := [.val ((eT (eT D.str)) store), .val ((eL (eP D.str D.str)) pairs), .val ((eD D.str) names), .no]) rfl rfl (fun fact => ⟨_, rfl, (callT_e (argP (vS_p rfl) (argP (vS_p rfl) (arg0 (T_changed _ _)))))⟩) _)) fun z => (arg0 (T_store_of _)))))))

def t_orders (items : (List Str)) : Pg (List (List Str)) :=
 (Pg.ret [([] : (List Str))]).bind fun found =>
 ((Pg.rng1 (items.length : Int)).bind fun z => Pg.foldP (fun turn found1 =>
 ((Pg.lc2 (fun some_ => (.ret true)) (fun some_ => (.ret items)) (fun some_ item => (Pg.ret (!(decide (item ∈ some_))))) (fun some_ item => (Pg.req (some_.length + [item].length ≤ sizeLine) (.ret (some_ ++ [item])))) found1).bind fun found2 =>
 .ret found2 : Pg (List (List Str)))) z found).bind fun found3 =>
 .ret found3
theorem T_orders (items : (List Str)) : ME (m_orders [((eT D.str) items)]) (t_orders items) (eL (eT D.str)) := t_def (env := [.val ((eT D.str) items), .no, .no, .no, .no]) rfl (show Blk d_orders _ (t_orders items) _ by
 delta d_orders t_orders
 exact (b_asgE (ea := (eL (eT D.str))) (env' := fun found => [.val ((eT D.str) items), .val ((eL (eT D.str)) found), .no, .no, .no]) (MP.me (e := (eL (eT D.str))) (a := [([] : (List Str))]) (lstT_p (argPP (tupT_p (arg0P (disp_e (v := ((eT D.str) ([] : (List Str)))) (by show 0 ≤ 1000; decide) rfl))) (arg0P (disp_e (v := ((eL (eT D.str)) [([] : (List Str))])) (by show 1 ≤ 1000; decide) rfl))))) (fun _ => rfl) (fun found =>
 b_seqN (b_forE (ex := D.int) (mk := (fun s => [.val ((eT D.str) items), .val ((eL (eT D.str)) s), .no, .no, .no] : (List (List Str)) → Env')) (s0 := found) (rng1_P (un1_P (vS_p rfl) (t_lenT (e := D.str)))) rfl (fun turn found1 => ⟨_, rfl, b_asgE (ea := (eL (eT D.str))) (env' := fun found2 => [.val ((eT D.str) items), .val ((eL (eT D.str)) found2), .val (D.int turn), .no, .no]) (lcT2_P (ex := (eT D.str)) (eb := (eT D.str)) (rowI_P (vS_p rfl) (i_L (e := (eT D.str)))) (lc_2 (ex := (eT D.str)) (ey := D.str) (eb := (eT D.str)) (env1 := [.val ((eT D.str) items), .val ((eL (eT D.str)) found1), .val (D.int turn), .no, .no]) (test0 := fun some_ => (.ret true)) (its := fun some_ => (.ret items)) (test := fun some_ item => (Pg.ret (!(decide (item ∈ some_))))) (elt := fun some_ item => (Pg.req (some_.length + [item].length ≤ sizeLine) (.ret (some_ ++ [item])))) (env2 := fun some_ => [.val ((eT D.str) items), .val ((eL (eT D.str)) found1), .val (D.int turn), .val ((eT D.str) some_), .no]) rfl rfl (fun some_ => ⟨_, rfl, (MP.me yesT_P), (MP.me (e := List.map D.str) (a := items) (rowI_P (vS_p rfl) (i_T (e := D.str)))), rfl, fun item => ⟨_, rfl, (MP.me (e := D.bl) (a := (!(decide (item ∈ some_)))) (bin2_PP (vS_p rfl) (vS_p rfl) (t_notIn (t_inT (e := D.str) EqE.str (by decide) item some_)))), (bin2_PPE (vS_p rfl) (tupT_p (argPP (vS_p rfl) (arg0P (disp_e (v := ((eT D.str) [item])) (by show 1 ≤ 1000; decide) rfl)))) (t_addT (e := D.str)))⟩⟩) _)) (fun _ => rfl) (fun found2 =>
 b_endG (s := found2) rfl)⟩)) (fun found3 _ =>
 b_retF (er := (eL (eT D.str))) (r := found3) (vS_p rfl)))))

def t_plain (store : (List (List Str))) : Pg (List (List Str)) :=
 (t_unknowns store).bind fun some_ =>
 ((Pg.rng1 (some_.length : Int)).bind fun z1 => (Pg.lcM (fun number => ((Pg.req (0 ≤ (number + (1 : Int)) ∧ (number + (1 : Int)) < 10000000000) (.ret (Str.ofString (toString (number + (1 : Int)))))).bind fun z => (Pg.req ((Str.ofString "?").length + z.length ≤ sizeLine) (.ret ((Str.ofString "?") ++ z))))) z1)).bind fun new =>
 ((t_orders some_).bind fun z3 => (Pg.lcM (fun order => (t_renamed2 store (order.zip new))) z3)).bind fun found =>
 (Pg.at_ found (0 : Int)).bind fun best =>
 (Pg.foldP (fun other best1 =>
 ((Pg.req (ordOk ((eT (eT D.str)) other) ((eT (eT D.str)) best1) = true) (.ret (ltB ((eT (eT D.str)) other) ((eT (eT D.str)) best1)))).bind fun c => if c = true then (.ret other) else (.ret best1) : Pg (List (List Str)))) (cutL found (some (1 : Int)) none) best).bind fun best2 =>
 .ret best2
theorem T_plain (store : (List (List Str))) : ME (m_plain [((eT (eT D.str)) store)]) (t_plain store) (eT (eT D.str)) := t_def (env := [.val ((eT (eT D.str)) store), .no, .no, .no, .no, .no, .no, .no]) rfl (show Blk d_plain _ (t_plain store) _ by
 delta d_plain t_plain
 exact (b_asgE (ea := (eT D.str)) (env' := fun some_ => [.val ((eT (eT D.str)) store), .val ((eT D.str) some_), .no, .no, .no, .no, .no, .no]) (callT_e (argP (vS_p rfl) (arg0 (T_unknowns _)))) (fun _ => rfl) (fun some_ =>
 b_asgE (ea := (eL D.str)) (env' := fun new => [.val ((eT (eT D.str)) store), .val ((eT D.str) some_), .val ((eL D.str) new), .no, .no, .no, .no, .no]) (lcT_E (ex := D.int) (eb := D.str) (rng1_P (un1_P (vS_p rfl) (t_lenT (e := D.str)))) fun z1 => lc_M (ex := D.int) (eb := D.str) (env1 := [.val ((eT (eT D.str)) store), .val ((eT D.str) some_), .no, .no, .no, .no, .no, .no]) rfl rfl (fun number => ⟨_, rfl, (bin2_PE kD_p (un1_PE (bin2_PP (vS_p rfl) kD_p t_addI) t_strI) fun z => t_addS)⟩) _) (fun _ => rfl) (fun new =>
 b_asgE (ea := (eL (eT (eT D.str)))) (env' := fun found => [.val ((eT (eT D.str)) store), .val ((eT D.str) some_), .val ((eL D.str) new), .val ((eL (eT (eT D.str))) found), .no, .no, .no, .no]) (lcT_E (ex := (eT D.str)) (eb := (eT (eT D.str))) (rowI_I (e := (eT D.str)) (callT_e (argP (vS_p rfl) (arg0 (T_orders _)))) fun _ => (i_L (e := (eT D.str)))) fun z3 => lc_M (ex := (eT D.str)) (eb := (eT (eT D.str))) (env1 := [.val ((eT (eT D.str)) store), .val ((eT D.str) some_), .val ((eL D.str) new), .no, .no, .no, .no, .no]) rfl rfl (fun order => ⟨_, rfl, (callT_e (argP (vS_p rfl) (argP (bin2_PP (vS_p rfl) (vS_p rfl) (lzip_P (e := D.str) (e2 := D.str) rfl rfl (.inl fun _ => rfl))) (arg0 (T_renamed2 _ _)))))⟩) _) (fun _ => rfl) (fun found =>
 b_asgE (ea := (eT (eT D.str))) (env' := fun best => [.val ((eT (eT D.str)) store), .val ((eT D.str) some_), .val ((eL D.str) new), .val ((eL (eT (eT D.str))) found), .val ((eT (eT D.str)) best), .no, .no, .no]) (bin2_PPE (vS_p rfl) kD_p (t_ixL (e := (eT (eT D.str))))) (fun _ => rfl) (fun best =>
 b_seqN (b_forP (ex := (eT (eT D.str))) (mk := (fun s => [.val ((eT (eT D.str)) store), .val ((eT D.str) some_), .val ((eL D.str) new), .val ((eL (eT (eT D.str))) found), .val ((eT (eT D.str)) s), .no, .no, .no] : (List (List Str)) → Env')) (s0 := best) (rowI_P (sl3_P (vS_p rfl) (intPart_p kD_p) noPart_p (t_slL (e := (eT (eT D.str))))) (i_L (e := (eT (eT D.str))))) rfl (fun other best1 => ⟨_, rfl, b_iteE (bin2_PPE (vS_p rfl) (vS_p rfl) t_ltV) (b_assoc (b_asg (d := ((eT (eT D.str)) other)) (env' := [.val ((eT (eT D.str)) store), .val ((eT D.str) some_), .val ((eL D.str) new), .val ((eL (eT (eT D.str))) found), .val ((eT (eT D.str)) other), .val ((eT (eT D.str)) other), .no, .no]) (vS_p rfl) rfl
 (b_skip (b_endG (s := other) rfl))))
 (b_skip (b_endG (s := best1) rfl))⟩)) (fun best2 _ =>
 b_retF (er := (eT (eT D.str))) (r := best2) (vS_p rfl))))))))

def t_same (one : (List (List Str))) (other : (List (List Str))) : Pg Bool :=
 ((t_plain one).bind fun z => (t_plain other).bind fun z1 => (.ret ((decide (z = z1)))))
theorem T_same (one : (List (List Str))) (other : (List (List Str))) : ME (m_same [((eT (eT D.str)) one), ((eT (eT D.str)) other)]) (t_same one other) D.bl := t_def (env := [.val ((eT (eT D.str)) one), .val ((eT (eT D.str)) other)]) rfl (show Blk d_same _ (t_same one other) _ by
 delta d_same t_same
 exact (b_retFE (er := D.bl) (bin2_EE (callT_e (argP (vS_p rfl) (arg0 (T_plain _)))) (callT_e (argP (vS_p rfl) (arg0 (T_plain _)))) fun z z1 => (MP.me (e := D.bl) (t_eq (e := (eT (eT D.str))) ((EqE.str.tup).tup) (by decide) z z1)))))

def t_law : Pg Bool :=
 ((Pg.rng1 (16 : Int)).bind fun z21 => Pg.forP (fun turn _ =>
 ((t_law_kinds).bind fun kinds => (t_law_unknowns (5 : Int)).bind fun some_ => (t_law_pool (2 : Int)).bind fun words =>
 ((Pg.req (words.length + some_.length ≤ sizeLine) (.ret (words ++ some_))).bind fun z => (t_law_store kinds z (8 : Int))).bind fun one => (t_law_unknowns (5 : Int)).bind fun new =>
 ((Pg.req ((cutL new none (some (1 : Int))).length + (cutL new none (some (4 : Int))).length ≤ sizeLine) (.ret ((cutL new none (some (1 : Int))) ++ (cutL new none (some (4 : Int)))))).bind fun z1 => ((((Pg.at_ words (0 : Int)).bind fun z2 => (.ret [z2])).bind fun z3 => (Pg.req (z3.length + (cutL new (some (1 : Int)) none).length ≤ sizeLine) (.ret (z3 ++ (cutL new (some (1 : Int)) none))))).bind fun z4 => ((Pg.req ((cutL some_ (some (1 : Int)) none).length + (cutL some_ none (some (1 : Int))).length ≤ sizeLine) (.ret ((cutL some_ (some (1 : Int)) none) ++ (cutL some_ none (some (1 : Int)))))).bind fun z5 => (.ret [new, new, z1, z4, (some_.reverse), z5])))).bind fun near =>
 ((((t_one near).bind fun z6 => (.ret ((some_.zip z6)))).bind fun z7 => (.ret (dmerge z7))).bind fun z8 => (t_law_put one z8)).bind fun other =>
 (((Pg.draws (4 : Int)).bind fun z9 => (.ret ((decide (z9 = (0 : Int)))))).bind fun c => if c = true then (((Pg.req (words.length + some_.length ≤ sizeLine) (.ret (words ++ some_))).bind fun z10 => (t_law_store kinds z10 (7 : Int))).bind fun other2 =>
 .ret other2) else (.ret other) : Pg (List (List Str))).bind fun other1 =>
 (((Pg.draws (4 : Int)).bind fun z11 => (.ret ((decide (z11 = (0 : Int)))))).bind fun c1 => if c1 = true then ((Pg.ret (cutL other1 (some (1 : Int)) none)).bind fun other4 =>
 .ret other4) else (.ret other1) : Pg (List (List Str))).bind fun other3 =>
 (Pg.req (shOk ((eL (eT (eT D.str))) [one, other3]) = true) (.ret (shw ((eL (eT (eT D.str))) [one, other3])))).bind fun held => ((t_law_plain one).bind fun z12 => (t_law_plain other3).bind fun z13 => (.ret ((decide (z12 = z13))))).bind fun due =>
 ((((t_same one other3).bind fun z14 => ((t_same other3 one).bind fun z15 => ((t_same one one).bind fun z16 => (.ret [z14, z15, z16])))).bind fun z17 => (Pg.req (shOk ((eL D.bl) z17) = true) (.ret (shw ((eL D.bl) z17))))).bind fun z18 => (Pg.req (shOk ((eL D.bl) [due, due, true]) = true) (.ret (shw ((eL D.bl) [due, due, true])))).bind fun z19 => (.ret ((!decide (z18 = z19))))).bind fun c3 => if c3 = true then (.ret (.ex false)) else (((Pg.req (shOk ((eL (eT (eT D.str))) [one, other3]) = true) (.ret (shw ((eL (eT (eT D.str))) [one, other3])))).bind fun z20 => (.ret ((!decide (z20 = held))))).bind fun c2 => if c2 = true then (.ret (.ex false)) else (.ret (.nx ()))) : Pg (Ct Unit Bool))) z21 ()).bind (Ct.elim (fun _ =>
 .ret true) fun r => .ret r)
theorem T_law : Blk d_law [.no, .val (eK ()), .no, .no, .no, .no, .no, .no, .no, .no, .no, .no] t_law (JF D.bl) := by
 delta d_law t_law
 exact (b_seqC (er := D.bl) inj_F (b_forCE (ex := D.int) (er := D.bl) (mk := (fun s => [.no, .val (eK ()), .no, .no, .no, .no, .no, .no, .no, .no, .no, .no] : Unit → Env')) (s0 := ()) (rng1_P kD_p) rfl (fun turn _ => ⟨_, rfl, b_par3 (ea := (eL (eP D.str D.int))) (eb := (eL D.str)) (eg := (eL D.str)) (env' := fun kinds some_ words => [.no, .val (eK ()), .val (D.int turn), .val ((eL (eP D.str D.int)) kinds), .val ((eL D.str) some_), .val ((eL D.str) words), .no, .no, .no, .no, .no, .no]) (callT_e (argP (vS_p rfl) (arg0 (T_law_kinds)))) (callT_e (argP (vS_p rfl) (argP kD_p (arg0 (T_law_unknowns _))))) (callT_e (argP (vS_p rfl) (argP kD_p (arg0 (T_law_pool _))))) rfl (fun _ _ _ => rfl) (fun kinds some_ words =>
 b_par2 (ea := (eT (eT D.str))) (eb := (eL D.str)) (env' := fun one new => [.no, .val (eK ()), .val (D.int turn), .val ((eL (eP D.str D.int)) kinds), .val ((eL D.str) some_), .val ((eL D.str) words), .val ((eT (eT D.str)) one), .val ((eL D.str) new), .no, .no, .no, .no]) (callT_e (argP (vS_p rfl) (argP (vS_p rfl) (argE (bin2_PPE (vS_p rfl) (vS_p rfl) (t_addL (e := D.str))) fun z => (argP kD_p (arg0 (T_law_store _ _ _))))))) (callT_e (argP (vS_p rfl) (argP kD_p (arg0 (T_law_unknowns _))))) rfl (fun _ _ => rfl) (fun one new =>
 b_asgE (ea := (eL (eL D.str))) (env' := fun near => [.no, .val (eK ()), .val (D.int turn), .val ((eL (eP D.str D.int)) kinds), .val ((eL D.str) some_), .val ((eL D.str) words), .val ((eT (eT D.str)) one), .val ((eL D.str) new), .val ((eL (eL D.str)) near), .no, .no, .no]) (lstT_e (argP (vS_p rfl) (argP (vS_p rfl) (argE (bin2_PPE (sl3_P (vS_p rfl) noPart_p (intPart_p kD_p) (t_slL (e := D.str))) (sl3_P (vS_p rfl) noPart_p (intPart_p kD_p) (t_slL (e := D.str))) (t_addL (e := D.str))) fun z1 => (argE (bin2_EP (lstT_e (argE (bin2_PPE (vS_p rfl) kD_p (t_ixL (e := D.str))) fun z2 => (arg0 (MP.me (e := (eL D.str)) (a := [z2]) (disp_e (v := ((eL D.str) [z2])) (by show 1 ≤ 1000; decide) rfl))))) (sl3_P (vS_p rfl) (intPart_p kD_p) noPart_p (t_slL (e := D.str))) fun z3 => (t_addL (e := D.str))) fun z4 => (argP (un1_P (vS_p rfl) (t_revL (e := D.str))) (argE (bin2_PPE (sl3_P (vS_p rfl) (intPart_p kD_p) noPart_p (t_slL (e := D.str))) (sl3_P (vS_p rfl) noPart_p (intPart_p kD_p) (t_slL (e := D.str))) (t_addL (e := D.str))) fun z5 => (arg0 (MP.me (e := (eL (eL D.str))) (a := [new, new, z1, z4, (some_.reverse), z5]) (disp_e (v := ((eL (eL D.str)) [new, new, z1, z4, (some_.reverse), z5])) (by show 6 ≤ 1000; decide) rfl)))))))))) (fun _ => rfl) (fun near =>
 b_asgE (ea := (eT (eT D.str))) (env' := fun other => [.no, .val (eK ()), .val (D.int turn), .val ((eL (eP D.str D.int)) kinds), .val ((eL D.str) some_), .val ((eL D.str) words), .val ((eT (eT D.str)) one), .val ((eL D.str) new), .val ((eL (eL D.str)) near), .val ((eT (eT D.str)) other), .no, .no]) (callT_e (argP (vS_p rfl) (argE (un1_E (bin2_PE (vS_p rfl) (callT_e (argP (vS_p rfl) (argP (vS_p rfl) (arg0 (T_oneL (e := (eL D.str)) _))))) fun z6 => (MP.me (e := (eL (eP D.str D.str))) (lzip_P (e := D.str) (e2 := D.str) rfl rfl (.inl fun _ => rfl)))) fun z7 => (MP.me (e := (eD D.str)) (t_dictL (e := D.str)))) fun z8 => (arg0 (T_law_put _ _))))) (fun _ => rfl) (fun other =>
 b_seqN (mk := (fun s j1 => [.no, .val (eK ()), .val (D.int turn), .val ((eL (eP D.str D.int)) kinds), .val ((eL D.str) some_), .val ((eL D.str) words), .val ((eT (eT D.str)) one), .val ((eL D.str) new), .val ((eL (eL D.str)) near), .val ((eT (eT D.str)) s), .no, .no] : (List (List Str)) → JK → Env')) (b_last (b_iteE (bin2_EP (callT_e (argP (vS_p rfl) (argP kD_p (arg0 t_draw)))) kD_p fun z9 => (MP.me (e := D.bl) (t_eq (e := D.int) EqE.int (by decide) z9 (0 : Int)))) (b_assoc (b_asgE (ea := (eT (eT D.str))) (env' := fun other2 => [.no, .val (eK ()), .val (D.int turn), .val ((eL (eP D.str D.int)) kinds), .val ((eL D.str) some_), .val ((eL D.str) words), .val ((eT (eT D.str)) one), .val ((eL D.str) new), .val ((eL (eL D.str)) near), .val ((eT (eT D.str)) other2), .no, .no]) (callT_e (argP (vS_p rfl) (argP (vS_p rfl) (argE (bin2_PPE (vS_p rfl) (vS_p rfl) (t_addL (e := D.str))) fun z10 => (argP kD_p (arg0 (T_law_store _ _ _))))))) (fun _ => rfl) (fun other2 =>
 b_skip (b_endN (s := other2) (fun i => [.no, .val (eK ()), .val (D.int turn), .val ((eL (eP D.str D.int)) kinds), .val ((eL D.str) some_), .val ((eL D.str) words), .val ((eT (eT D.str)) one), .val ((eL D.str) new), .val ((eL (eL D.str)) near), .val ((eT (eT D.str)) other2), .no, .no].getD i EV.no) rfl))))
 (b_skip (b_endN (s := other) (fun i => [.no, .val (eK ()), .val (D.int turn), .val ((eL (eP D.str D.int)) kinds), .val ((eL D.str) some_), .val ((eL D.str) words), .val ((eT (eT D.str)) one), .val ((eL D.str) new), .val ((eL (eL D.str)) near), .val ((eT (eT D.str)) other), .no, .no].getD i EV.no) rfl)))) (fun other1 j1 =>
 b_seqN (mk := (fun s j2 => [.no, .val (eK ()), .val (D.int turn), .val ((eL (eP D.str D.int)) kinds), .val ((eL D.str) some_), .val ((eL D.str) words), .val ((eT (eT D.str)) one), .val ((eL D.str) new), .val ((eL (eL D.str)) near), .val ((eT (eT D.str)) s), .no, .no] : (List (List Str)) → JK → Env')) (b_last (b_iteE (bin2_EP (callT_e (argP (vS_p rfl) (argP kD_p (arg0 t_draw)))) kD_p fun z11 => (MP.me (e := D.bl) (t_eq (e := D.int) EqE.int (by decide) z11 (0 : Int)))) (b_assoc (b_asgE (ea := (eT (eT D.str))) (env' := fun other4 => [.no, .val (eK ()), .val (D.int turn), .val ((eL (eP D.str D.int)) kinds), .val ((eL D.str) some_), .val ((eL D.str) words), .val ((eT (eT D.str)) one), .val ((eL D.str) new), .val ((eL (eL D.str)) near), .val ((eT (eT D.str)) other4), .no, .no]) (MP.me (e := (eT (eT D.str))) (a := (cutL other1 (some (1 : Int)) none)) (sl3_P (vS_p rfl) (intPart_p kD_p) noPart_p (t_slT (e := (eT D.str))))) (fun _ => rfl) (fun other4 =>
 b_skip (b_endN (s := other4) (fun i => [.no, .val (eK ()), .val (D.int turn), .val ((eL (eP D.str D.int)) kinds), .val ((eL D.str) some_), .val ((eL D.str) words), .val ((eT (eT D.str)) one), .val ((eL D.str) new), .val ((eL (eL D.str)) near), .val ((eT (eT D.str)) other4), .no, .no].getD i EV.no) rfl))))
 (b_skip (b_endN (s := other1) (fun i => [.no, .val (eK ()), .val (D.int turn), .val ((eL (eP D.str D.int)) kinds), .val ((eL D.str) some_), .val ((eL D.str) words), .val ((eT (eT D.str)) one), .val ((eL D.str) new), .val ((eL (eL D.str)) near), .val ((eT (eT D.str)) other1), .no, .no].getD i EV.no) rfl)))) (fun other3 j2 =>
 b_par2 (ea := D.str) (eb := D.bl) (env' := fun held due => [.no, .val (eK ()), .val (D.int turn), .val ((eL (eP D.str D.int)) kinds), .val ((eL D.str) some_), .val ((eL D.str) words), .val ((eT (eT D.str)) one), .val ((eL D.str) new), .val ((eL (eL D.str)) near), .val ((eT (eT D.str)) other3), .val (D.str held), .val (D.bl due)]) (un1_PE (lstT_p (argPP (vS_p rfl) (argPP (vS_p rfl) (arg0P (disp_e (v := ((eL (eT (eT D.str))) [one, other3])) (by show 2 ≤ 1000; decide) rfl))))) t_repr) (bin2_EE (callT_e (argP (vS_p rfl) (arg0 (T_law_plain _)))) (callT_e (argP (vS_p rfl) (arg0 (T_law_plain _)))) fun z12 z13 => (MP.me (e := D.bl) (t_eq (e := (eT (eT D.str))) ((EqE.str.tup).tup) (by decide) z12 z13))) rfl (fun _ _ => rfl) (fun held due =>
 b_iteE (bin2_EE (un1_E (lstT_e (argE (callT_e (argP (vS_p rfl) (argP (vS_p rfl) (arg0 (T_same _ _))))) fun z14 => (argE (callT_e (argP (vS_p rfl) (argP (vS_p rfl) (arg0 (T_same _ _))))) fun z15 => (argE (callT_e (argP (vS_p rfl) (argP (vS_p rfl) (arg0 (T_same _ _))))) fun z16 => (arg0 (MP.me (e := (eL D.bl)) (a := [z14, z15, z16]) (disp_e (v := ((eL D.bl) [z14, z15, z16])) (by show 3 ≤ 1000; decide) rfl))))))) fun z17 => t_repr) (un1_PE (lstT_p (argPP (vS_p rfl) (argPP (vS_p rfl) (argPP kD_p (arg0P (disp_e (v := ((eL D.bl) [due, due, true])) (by show 3 ≤ 1000; decide) rfl)))))) t_repr) fun z18 z19 => (MP.me (e := D.bl) (t_ne (e := D.str) EqE.str (by decide) z18 z19))) (b_assoc (b_ret (er := D.bl) (r := false) inj_H kD_p))
 (b_skip (b_iteE (bin2_EP (un1_PE (lstT_p (argPP (vS_p rfl) (argPP (vS_p rfl) (arg0P (disp_e (v := ((eL (eT (eT D.str))) [one, other3])) (by show 2 ≤ 1000; decide) rfl))))) t_repr) (vS_p rfl) fun z20 => (MP.me (e := D.bl) (t_ne (e := D.str) EqE.str (by decide) z20 held))) (b_assoc (b_ret (er := D.bl) (r := false) inj_H kD_p))
 (b_skip (b_endH (s := ()) rfl)))))))))))⟩)) (fun _ _ =>
 b_retF (er := D.bl) (r := true) kD_p))

theorem env_eq : ((List.replicate 12 EV.no).set 1 (.val .deck)) = [.no, .val (eK ()), .no, .no, .no, .no, .no, .no, .no, .no, .no, .no] := rfl
theorem blk_law {t : DS} {env : Env'} {p : Pg Bool} (h : Blk t env p (JF D.bl)) (q : Pg.wp p most (fun b _ => b = true) fun _ _ => False) : t env { nx := fun _ _ => False, rt := fun d _ => d = .bl true } (fun _ _ _ => False) most := h _ _ _ (Pg.wp_mono (fun b n q => by show D.bl b = _; rw [q]) (fun _ _ q => q) q)
theorem law_of (h : Pg.wp t_law most (fun b _ => b = true) fun _ _ => False) : LawMath := by
 unfold LawMath
 rw [env_eq]
 exact blk_law T_law h
end DL

namespace DL
open PySem PySem.Spec L2
theorem flat1 : ∀ cs : List Nat, (cs.map fun c => [c]).flatten = cs
  | [] => rfl
  | c :: cs => by simp [flat1 cs]
theorem sum1 : ∀ cs : List Nat, (cs.map fun c => (mkS [c]).length).sum = cs.length
  | [] => rfl
  | c :: cs => by
    have := sum1 cs
    simp only [List.map_cons, List.sum_cons, List.length_cons, len_mk, List.length_nil] at *
    omega
theorem rn_word : Rn t_law_word 9 fun s => ∃ l, DW l ∧ s = mkS l := by
  unfold t_law_word
  refine Rn.seq 1 (Rn.one (by simp) (by decide)) (by decide) fun size hs => ?_
  have hb : 1 ≤ size ∧ size ≤ 8 := by
    simp only [List.mem_cons, List.not_mem_nil, or_false] at hs
    omega
  rw [rng1_t (by omega), Pg.bind_ret]
  have abcS : (Str.ofString "abcmyz").cps.toList = abc := by decide +kernel
  have hl := rng_len 0 size
  refine Rn.seq 8 ((Rn.lcM (fun _ s => ∃ c ∈ abc, s = mkS [c]) 1 (by omega) fun k hk => ?_).mono (b1 := (rng 0 size).length * 1) (by omega) fun _ z => z) (by decide) fun ys hys => ?_
  · refine (Rn.oneS (by rw [abcS]; decide) (by rw [abcS]; decide)).imp fun a ha => ?_
    rw [abcS] at ha
    exact ha
  · obtain ⟨cs, e, hc⟩ := hys.map (enc := fun c => mkS [c]) (Q := fun _ c => c ∈ abc) fun _ _ ⟨c, h1, h2⟩ => ⟨c, h2, h1⟩
    have hlen := hc.length
    have hall := all2_mem hc
    have e1 : Txt.join (Str.ofString "") ys = mkS cs := by
      have := txt_join_nil (cs.map fun c => [c])
      rw [List.map_map] at this
      rw [e]
      refine this.trans ?_
      congr 1
      exact flat1 cs
    have e2 : (ys.map (·.length)).sum = cs.length := by
      rw [e, List.map_map]
      show (cs.map fun c => (mkS [c]).length).sum = _
      exact sum1 cs
    unfold Pg.join
    rw [e1, e2]
    refine Rn.req ⟨?_, mk_ok fun c hc => ?_⟩ (Rn.ret ⟨cs, ⟨by omega, by omega, hall⟩, rfl⟩)
    · have : (Str.ofString "").length = 0 := by decide +kernel
      rw [this]; omega
    · have := abc_in (hall c hc); omega
theorem rn_pool (many : Nat) (hm : many ≤ 9) : Rn (t_law_pool many) (many * 9) fun l => l.length = many ∧ l.Nodup ∧ ∀ w ∈ l, IsWord w := by
  unfold t_law_pool
  refine Rn.seq (many * 9) (Rn.whF (fun found => found.length ≤ many ∧ found.Nodup ∧ ∀ w ∈ found, IsWord w) (fun found => many - found.length) (fun found => decide ((found.length : Int) < many)) 9 many ⟨by simp, List.nodup_nil, fun _ h => (by cases h)⟩ (by simp; omega) (by simp) (fun _ _ => rfl) fun found hi ht => ?_) (Nat.le_refl _) fun found h => ?_
  · have ht := of_decide_eq_true ht
    refine ⟨by omega, ?_⟩
    refine Rn.seq 9 rn_word (Nat.le_refl _) fun w hw => ?_
    obtain ⟨l, hl, rfl⟩ := hw
    refine Rn.seq 0 ((Rn.whF (fun s => ∃ j, j ≤ 8 ∧ s = mkS (sqW l j) ∧ ∀ i, i < j → mkS (sqW l i) ∈ found) (fun s => 9 - (cpsS s).count 113) (fun s => decide (s ∈ found)) 0 9 ⟨0, by omega, rfl, fun _ h => by omega⟩ (by omega) (by omega) (fun _ _ => rfl) fun s hs hin => ?_).mono (Nat.le_refl _) fun _ z => z) (Nat.le_refl _) fun s hs => ?_
    · obtain ⟨j, hj, rfl, hall⟩ := hs
      have hin := of_decide_eq_true hin
      have hj2 : j < 8 := by
        refine Nat.lt_of_le_of_ne hj fun e => ?_
        subst e
        exact sqW_free hl (ws := found) (by omega) fun i hi => by
          by_cases q : i < 8
          · exact hall i q
          · rw [show i = 8 by omega]; exact hin
      have ok := sqW_ok hl hj
      have h8 := ok.2.1
      have cnt := sqW_cnt hl hj
      have cnt2 := sqW_cnt hl (show j + 1 ≤ 8 by omega)
      refine ⟨by rw [cps_mk, cnt]; omega, ?_⟩
      have qq : (Str.ofString "q") = mkS [113] := by decide +kernel
      rw [Pg.req_t (le_sz (by omega)), Pg.bind_ret, Pg.bind_ret, qq]
      have goal : ∀ t, t = mkS (sqW l (j + 1)) → Rn (Pg.ret t) 0 fun s' => (∃ j, j ≤ 8 ∧ s' = mkS (sqW l j) ∧ ∀ i, i < j → mkS (sqW l i) ∈ found) ∧ 9 - (cpsS s').count 113 < 9 - (cpsS (mkS (sqW l j))).count 113 := by
        intro t ht
        subst ht
        refine Rn.ret ⟨⟨j + 1, hj2, rfl, fun i hi => ?_⟩, ?_⟩
        · by_cases q : i < j
          · exact hall i q
          · rw [show i = j by omega]; exact hin
        · rw [cps_mk, cps_mk, cnt, cnt2]; omega
      have nx : mkS (sqW l (j + 1)) = mkS (nxW (sqW l j)) := rfl
      rw [len_mk] at *
      by_cases hc : (sqW l j).length = 8
      · rw [if_pos (decide_eq_true (by omega)), Pg.req_t (le_sz (by omega)), Pg.bind_ret, cutS_1, cps_mk, Pg.req_t (le_sz (by rw [len_mk, len_mk]; simp; omega)), mk_app, Pg.bind_ret]
        exact goal _ (by rw [nx]; unfold nxW; rw [if_pos hc])
      · rw [if_neg (by rw [decide_eq_true_eq]; omega), Pg.req_t (le_sz (by rw [len_mk]; simp; omega)), mk_app, Pg.bind_ret]
        exact goal _ (by rw [nx]; unfold nxW; rw [if_neg hc])
    · obtain ⟨⟨j, hj, rfl, hall⟩, hno⟩ := hs
      have hno := of_decide_eq_false hno
      rw [app_t (by omega)]
      refine Rn.ret ⟨⟨by simp; omega, ?_, fun w hw => ?_⟩, by simp; omega⟩
      · rw [List.nodup_append]
        exact ⟨hi.2.1, by simp, fun a ha b hb => by rw [List.mem_singleton.mp hb]; exact fun e => hno (e ▸ ha)⟩
      · rcases List.mem_append.mp hw with hw | hw
        · exact hi.2.2 w hw
        · rw [List.mem_singleton.mp hw]; exact sqW_ok hl hj
  · obtain ⟨⟨h1, h2, h3⟩, h4⟩ := h
    have h4 := of_decide_eq_false h4
    exact Rn.ret ⟨by omega, h2, h3⟩
end DL

namespace DL
open PySem PySem.Spec L2
theorem pop_t {l : List Str} {z : Int} (h0 : 0 ≤ z) (h1 : z < l.length) (hl : l.length ≤ 1000) : ∃ (m : Nat) (hm : m < l.length), z = m ∧ Pg.popAt l z = .ret (l[m], l.eraseIdx m) := by
  obtain ⟨m, rfl⟩ := Int.eq_ofNat_of_zero_le h0
  have hm : m < l.length := by omega
  refine ⟨m, hm, rfl, ?_⟩
  unfold Pg.popAt
  have e : seqIndex? (m : Int) l.length = some m := by
    unfold seqIndex?
    have a1 : decide ((0 : Int) ≤ (m : Int)) = true := decide_eq_true (by omega)
    have a2 : decide ((m : Int) < (l.length : Int)) = true := decide_eq_true (by omega)
    simp only [show ¬ ((m : Int) < 0) by omega, if_false, a1, a2, Bool.and_self, if_true, Int.toNat_natCast]
  rw [e]
  dsimp only
  rw [List.getElem?_eq_getElem hm]
  dsimp only
  rw [Pg.req_t (by constructor <;> omega)]
theorem erase_perm : ∀ {l : List Str} {m : Nat} (hm : m < l.length), (l[m] :: l.eraseIdx m).Perm l
  | [], _, hm => by simp at hm
  | a :: l, 0, _ => .refl _
  | a :: l, m + 1, hm => (List.Perm.swap a (l[m]'(by simpa using hm)) (l.eraseIdx m)).trans ((erase_perm (l := l) (m := m) (by simpa using hm)).cons a)
theorem rn_unknowns (many : Nat) (hm : many ≤ 8) : Rn (t_law_unknowns many) many fun l => l.length = many ∧ l.Nodup ∧ ∀ t ∈ l, t ∈ unks := by
  unfold t_law_unknowns
  rw [Pg.bind_ret, Pg.bind_ret, Pg.bind_assoc, rng1_t (by omega), Pg.bind_ret]
  have hl := rng_len 0 many
  have hu : unks.length = 8 := rfl
  refine Rn.seq many ((Rn.foldP (fun done (s : List Str × List Str) => s.1.length = done.length ∧ (s.1 ++ s.2).Perm unks) 1 ⟨rfl, List.Perm.refl _⟩ fun done x todo s hx h => ?_).mono (by omega) fun _ z => z) (Nat.le_refl _) fun s h => ?_
  · obtain ⟨f, g⟩ := s
    obtain ⟨h1, h2⟩ := h
    dsimp only at h1 h2 ⊢
    have h3 := h2.length_eq
    have h4 := congrArg List.length hx
    simp only [List.length_append, List.length_cons] at h3 h4
    refine Rn.seq 1 (Rn.draws (by omega) (by omega)) (by decide) fun z hz => ?_
    obtain ⟨m, hm, rfl, e⟩ := pop_t (l := g) hz.1 (by omega) (by omega)
    unfold Pg.apop
    rw [e, Pg.bind_ret, app_t (by omega)]
    refine Rn.ret ⟨by simp; omega, ?_⟩
    dsimp only
    rw [List.append_assoc]
    exact ((erase_perm hm).append_left f).trans h2
  · obtain ⟨f, g⟩ := s
    obtain ⟨h1, h2⟩ := h
    dsimp only at h1 h2 ⊢
    have nd := h2.nodup_iff.mpr unks_nodup
    exact Rn.ret ⟨by omega, (List.nodup_append.mp nd).1, fun t ht => h2.mem_iff.mp (List.mem_append_left _ ht)⟩
end DL

namespace DL
open PySem PySem.Spec L2
theorem rn_kinds : Rn t_law_kinds 31 fun l => 2 ≤ l.length ∧ l.length ≤ 3 ∧ (l.map (·.1)).Nodup ∧ ∀ kd ∈ l, IsWord kd.1 ∧ 1 ≤ kd.2 ∧ kd.2 ≤ 4 := by
  unfold t_law_kinds
  rw [Pg.bind_assoc, Pg.bind_assoc]
  refine Rn.seq 1 (Rn.draws (by decide) (by decide)) (by decide) fun z hz => ?_
  obtain ⟨k, hk⟩ : ∃ k : Nat, (2 : Int) + z = k := ⟨(2 + z).toNat, by omega⟩
  rw [Pg.bind_ret, hk]
  refine Rn.seq 27 ((rn_pool k (by omega)).mono (by omega) fun _ z => z) (by decide) fun row hrow => ?_
  obtain ⟨r1, r2, r3⟩ := hrow
  refine (Rn.lcM (fun name (kd : Str × Int) => kd.1 = name ∧ 1 ≤ kd.2 ∧ kd.2 ≤ 4) 1 (by omega) fun name hn => ?_).mono (by omega) fun l hl => ?_
  · refine Rn.seq 1 (Rn.one (by simp) (by decide)) (by decide) fun w hw => Rn.ret ⟨rfl, ?_⟩
    simp only [List.mem_cons, List.not_mem_nil, or_false] at hw
    dsimp only
    omega
  · have hlen := hl.length
    have e : l.map (·.1) = row := by
      clear r1 r2 r3 hlen
      induction hl with
      | nil => rfl
      | cons h t ih => rw [List.map_cons, ih, h.1]
    refine ⟨by omega, by omega, by rw [e]; exact r2, fun kd hkd => ⟨r3 _ (by rw [← e]; exact List.mem_map_of_mem hkd), ?_⟩⟩
    exact All2.mem (R := fun (name : Str) (kd : Str × Int) => kd.1 = name ∧ 1 ≤ kd.2 ∧ kd.2 ≤ 4) (P := fun kd : Str × Int => 1 ≤ kd.2 ∧ kd.2 ≤ 4) (fun _ _ h => h.2) hl kd hkd
theorem rn_store (kinds : List (Str × Int)) (values : List Str) (many : Nat) (hk : kinds ≠ []) (hk2 : kinds.length < 1000) (hv : values ≠ []) (hv2 : values.length < 1000) (hw : ∀ kd ∈ kinds, 1 ≤ kd.2 ∧ kd.2 ≤ 4) (hm : many ≤ 60) :
    Rn (t_law_store kinds values many) (1 + many * 5) fun as => as.length ≤ many ∧ CanR as ∧ ∀ a ∈ as, DFact kinds values a := by
  unfold t_law_store
  rw [Pg.bind_assoc, Pg.bind_assoc]
  refine Rn.seq 1 (Rn.draws (by omega) (by omega)) (by omega) fun r hr => ?_
  rw [rng1_t (by omega), Pg.bind_ret]
  have hl := rng_len 0 r
  have hb : (rng 0 r).length * 5 ≤ many * 5 := Nat.mul_le_mul_right 5 (by omega)
  refine Rn.seq (many * 5) ((Rn.foldP (fun done as => as.length = done.length ∧ ∀ a ∈ as, DFact kinds values a) 5 ⟨rfl, fun _ h => (by cases h)⟩ fun done x todo as hx h => ?_).mono hb fun _ z => z) (by omega) fun as h => ?_
  · refine Rn.seq 1 (Rn.one hk (by omega)) (by decide) fun kd hkd => ?_
    have hw := hw kd hkd
    dsimp only
    rw [rng1_t (by omega), Pg.bind_ret]
    have hl2 := rng_len 0 kd.2
    rw [Pg.bind_assoc, Pg.bind_assoc]
    refine Rn.seq 4 ((Rn.lcM (fun _ t => t ∈ values) 1 (by omega) fun k hk => Rn.one hv (by omega)).mono (by omega) fun _ z => z) (by decide) fun ts hts => ?_
    have hlen := hts.length
    rw [Pg.bind_ret, Pg.req_t (le_sz (by simp; omega)), Pg.bind_ret]
    have hal : as.length < 1000 := by
      have := congrArg List.length hx
      simp at this
      omega
    rw [app_t hal]
    refine Rn.ret ⟨by simp [h.1], fun a ha => ?_⟩
    rcases List.mem_append.mp ha with ha | ha
    · exact h.2 a ha
    · rw [List.mem_singleton.mp ha]
      exact ⟨kd, hkd, ts, rfl, by omega, all2_mem hts⟩
  · rw [ssetR_t (by omega) (fun a ha => by obtain ⟨_, _, _, rfl, _⟩ := h.2 a ha; simp), Pg.bind_ret]
    exact Rn.ret ⟨by have := len_srtR as; omega, can_srtR as, fun a ha => h.2 a (mem_srtR.mp ha)⟩
theorem DFact.fs {kinds : List (Str × Int)} {values : List Str} {n : Nat} {as : List (List Str)} (hl : as.length ≤ n) (h : ∀ a ∈ as, DFact kinds values a) (hk : ∀ kd ∈ kinds, Vl kd.1 ∧ kd.2 ≤ 4) (hv : ∀ t ∈ values, Vl t) : Fs n 5 as := ⟨hl, fun a ha => by
  obtain ⟨kd, h1, ts, rfl, h2, h3⟩ := h a ha
  have := hk kd h1
  refine ⟨by simp, by simp; omega, fun t ht => ?_⟩
  rcases List.mem_cons.mp ht with rfl | ht
  · exact this.1
  · exact hv t (h3 t ht)⟩
end DL

namespace DL
open PySem PySem.Spec L2
theorem t_changed_eq {names : List (Str × Str)} {f : List Str} (h : f.length ≤ 40) : t_changed f names = .ret (chF names f) := ch_t h
theorem t_store_of_eq {l : Sto} (h : l.length ≤ 76) (hn : ∀ r ∈ l, r ≠ []) : t_store_of l = .ret (Rs.srtR l) := by
  unfold t_store_of
  rw [ssetR_t h hn, Pg.bind_ret]
theorem t_renamed2_eq {n m : Nat} {as : List (List Str)} {pairs : List (Str × Str)} (h : Fs n m as) (hn : n ≤ 76) (hm : m ≤ 40) : t_renamed2 as pairs = .ret (Rs.srtR (as.map (chF (dmerge pairs)))) := by
  unfold t_renamed2
  rw [Pg.bind_ret, mapM_e (chF (dmerge pairs)) (fun f hf => t_changed_eq (Nat.le_trans (h.2 f hf).2.1 hm)) (by have := h.1; omega), Pg.bind_ret, t_store_of_eq (by rw [List.length_map]; have := h.1; omega) (fun r hr => ?_)]
  obtain ⟨f, hf, rfl⟩ := List.mem_map.mp hr
  exact chF_ne (h.2 f hf).1
theorem t_renamed_eq {n m : Nat} {as : List (List Str)} {pairs : List (Str × Str)} (h : Fs n m as) (hn : n ≤ 76) (hm : m ≤ 40) : t_renamed as pairs = .ret (Rs.srtR (as.map (chF (dmerge pairs)))) := by
  unfold t_renamed
  rw [Pg.bind_ret, mapM_e (chF (dmerge pairs)) (fun f hf => t_changed_eq (Nat.le_trans (h.2 f hf).2.1 hm)) (by have := h.1; omega), Pg.bind_ret, t_store_of_eq (by rw [List.length_map]; have := h.1; omega) (fun r hr => ?_)]
  obtain ⟨f, hf, rfl⟩ := List.mem_map.mp hr
  exact chF_ne (h.2 f hf).1
end DL

namespace DL
open PySem PySem.Spec L2
theorem t_orders_eq {items : List Str} (h : items.length ≤ 8) : t_orders items = .ret (ordsF items) := by
  unfold t_orders
  rw [Pg.bind_ret, rng1_t (by omega), Pg.bind_ret]
  have hl := rng_len 0 items.length
  refine (congrArg (fun p : Pg (List (List Str)) => p.bind _) (fold_it (itO items) _ 0 (fun x hx i _ hi => ?_))).trans ?_
  rotate_left
  · show Pg.ret _ = _
    unfold ordsF
    congr 2
    omega
  · have hi : i < items.length := by omega
    have h1 := itO_len items i
    have h2 := pow_k h (k := i + 1) (by omega)
    rw [Nat.pow_succ] at h2
    rw [stepO_t (Nat.le_trans (Nat.mul_le_mul_right _ h1) h2) (fun s hs => by have := (mem_itO.mp hs).2.2; omega), Pg.bind_ret]
    rfl
theorem t_unk_eq {n m : Nat} {as : List (List Str)} (h : Fs n m as) (hm : m ≤ 40) (hn : n * m ≤ 4000) : t_unknowns as = .ret (unkOf as) := by
  unfold t_unknowns
  rw [fold_unk h hm hn, Pg.bind_ret, sset_t (by have := h.uLen; omega)]
  rfl
theorem t_plain_eq {n m : Nat} {as : Sto} (h : Fs n m as) (hn : n ≤ 76) (hm : m ≤ 40) (hu : (unkOf as).length ≤ 8) : t_plain as = .ret (plainF as) := by
  have hnm : n * m ≤ 4000 := Nat.le_trans (Nat.mul_le_mul hn hm) (by decide)
  unfold t_plain
  rw [t_unk_eq h hm hnm, Pg.bind_ret, rng1_t (by omega), Pg.bind_ret, newU_t (by omega), Pg.bind_ret, t_orders_eq hu, Pg.bind_ret]
  have hol : (ordsF (unkOf as)).length ≤ 16777216 := Nat.le_trans (itO_len _ _) (pow8 hu)
  rw [mapM_z (fun o => renf (nmf (dmerge (o.zip (newU (unkOf as).length)))) as) (fun o _ => t_renamed2_eq h hn hm) hol, Pg.bind_ret]
  rw [show ((ordsF (unkOf as)).map fun o => renf (nmf (dmerge (o.zip (newU (unkOf as).length)))) as) = candF as from rfl]
  unfold plainF
  have hne := cand_ne as
  cases q : candF as with
  | nil => exact absurd q hne
  | cons x xs =>
    rw [at_0, Pg.bind_ret, cut_1, List.drop_one, List.tail_cons, Pg.foldP_ret (g := fun a y => if ltSt y a = true then y else a) (fun _ => True) trivial (fun y _ a _ => ⟨?_, trivial⟩), Pg.bind_ret]
    · rfl
    · rw [Pg.req_t (oeSt.ord (by decide) y a), Pg.bind_ret, oeSt.ltB]
      split <;> rfl
end DL

namespace DL
open PySem PySem.Spec L2
theorem t_law_orders_eq {items : List Str} (h : items.length ≤ 8) : t_law_orders items = .ret (ordsF items) := by
  unfold t_law_orders
  rw [Pg.bind_ret, rng1_t (by omega), Pg.bind_ret]
  have hl := rng_len 0 items.length
  refine (congrArg (fun p : Pg (List (List Str)) => p.bind _) (fold_it (itO items) _ 0 (fun x hx i _ hi => ?_))).trans ?_
  rotate_left
  · show Pg.ret _ = _
    unfold ordsF
    congr 2
    omega
  · have hi : i < items.length := by omega
    have h1 := itO_len items i
    have h2 := pow_k h (k := i + 1) (by omega)
    rw [Nat.pow_succ] at h2
    rw [stepO_l (by omega) (Nat.le_trans (Nat.mul_le_mul_right _ h1) h2) (fun s hs => by have := (mem_itO.mp hs).2.2; omega), Pg.bind_ret]
    rfl
theorem t_law_names_eq {n m : Nat} {as : List (List Str)} (h : Fs n m as) (hm : m ≤ 40) (hn : n * m ≤ 4000) : t_law_names as = .ret (unkOf as) := by
  unfold t_law_names
  rw [fold_unk h hm hn, Pg.bind_ret, sset_t (by have := h.uLen; omega)]
  rfl
theorem t_law_put_eq {n m : Nat} {as : List (List Str)} {names : List (Str × Str)} (h : Fs n m as) (hn : n ≤ 76) (hm : m ≤ 40) : t_law_put as names = .ret (Rs.srtR (as.map (chF names))) := by
  unfold t_law_put
  rw [mapM_e (chF names) (fun f hf => ch_t (Nat.le_trans (h.2 f hf).2.1 hm)) (by have := h.1; omega), Pg.bind_ret, ssetR_t (by rw [List.length_map]; have := h.1; omega) (fun r hr => ?_)]
  · rfl
  · obtain ⟨f, hf, rfl⟩ := List.mem_map.mp hr
    exact chF_ne (h.2 f hf).1
theorem t_law_plain_eq {n m : Nat} {as : Sto} (h : Fs n m as) (hn : n ≤ 76) (hm : m ≤ 40) (hu : (unkOf as).length ≤ 8) : t_law_plain as = .ret (plainF as) := by
  have hnm : n * m ≤ 4000 := Nat.le_trans (Nat.mul_le_mul hn hm) (by decide)
  unfold t_law_plain
  rw [t_law_names_eq h hm hnm, Pg.bind_ret, rng1_t (by omega), Pg.bind_ret, newU_t (by omega), Pg.bind_ret, t_law_orders_eq hu, Pg.bind_ret]
  have hol : (ordsF (unkOf as)).length ≤ 16777216 := Nat.le_trans (itO_len _ _) (pow8 hu)
  rw [mapM_z (fun o => renf (nmf (dmerge (o.zip (newU (unkOf as).length)))) as) (fun o _ => t_law_put_eq h hn hm) hol, Pg.bind_ret]
  show Pg.minE (eT (eT D.str)) (candF as) = _
  unfold plainF
  have hne := cand_ne as
  cases q : candF as with
  | nil => exact absurd q hne
  | cons x xs => exact oeSt.min (by decide) NI.tup x xs
end DL

namespace DL
open PySem PySem.Spec L2
theorem t_same_eq {n m : Nat} {a b : Sto} (ha : Fs n m a) (hb : Fs n m b) (hn : n ≤ 76) (hm : m ≤ 40) (hu : (unkOf a).length ≤ 8) (hv : (unkOf b).length ≤ 8) : t_same a b = .ret (decide (plainF a = plainF b)) := by
  unfold t_same
  rw [t_plain_eq ha hn hm hu, Pg.bind_ret, t_plain_eq hb hn hm hv, Pg.bind_ret]
theorem law_math : LawMath := law_of (law_rn (16 * 300) (by unfold most; decide) (by
  unfold t_law
  rw [Pg.bind_assoc, rng1_t (by decide), Pg.bind_ret]
  refine Rn.elim (E := fun _ => False) (P := fun _ => True) (16 * 300) ((Rn.forP (fun _ _ => True) (fun _ => False) 300 trivial fun done turn todo s hx h => ?_).mono (by rw [rng_len]; decide) fun r hr => by cases r with | nx s => trivial | ex e => exact hr) (Nat.le_refl _) (fun _ _ => Rn.ret rfl) fun e he => he.elim
  simp only [Pg.bind_assoc]
  refine Rn.seq 31 rn_kinds (by decide) fun kinds hk => ?_
  obtain ⟨k1, k2, k3, k4⟩ := hk
  refine Rn.seq 5 (rn_unknowns 5 (by decide)) (by decide) fun us hus => ?_
  obtain ⟨u1, u2, u3⟩ := hus
  refine Rn.seq 18 (rn_pool 2 (by decide)) (by decide) fun ws hws => ?_
  obtain ⟨w1, w2, w3⟩ := hws
  rw [Pg.req_t (le_sz (by omega)), Pg.bind_ret]
  have vl : ∀ t ∈ ws ++ us, Vl t := fun t ht => by
    rcases List.mem_append.mp ht with ht | ht
    · exact (w3 t ht).vl
    · exact (unks_vl (u3 t ht)).1
  have kn : kinds ≠ [] := by intro e; rw [e] at k1; simp at k1
  have vn : ws ++ us ≠ [] := by intro e; rw [List.append_eq_nil_iff] at e; rw [e.1] at w1; cases w1
  refine Rn.seq 41 (rn_store kinds (ws ++ us) 8 kn (by omega) vn (by rw [List.length_append]; omega) (fun kd hkd => (k4 kd hkd).2) (by decide)) (by decide) fun one hs => ?_
  obtain ⟨s1, s2, s3⟩ := hs
  have fs : Fs 8 5 one := DFact.fs s1 s3 (fun kd hkd => ⟨(k4 kd hkd).1.vl, (k4 kd hkd).2.2⟩) vl
  have wun := fun w hw => (w3 w hw).unk
  have sub := unk_sub (s := one) wun (fun v hv => dfact_val s3 hv)
  have hu : (unkOf one).length ≤ 5 := u1 ▸ unk_le sub
  refine Rn.seq 5 (rn_unknowns 5 (by decide)) (by decide) fun new hnew => ?_
  obtain ⟨v1, v2, v3⟩ := hnew
  have vn2 : ∀ t ∈ new, Vl t := fun t ht => (unks_vl (v3 t ht)).1
  have vu : ∀ t ∈ us, Vl t := fun t ht => (unks_vl (u3 t ht)).1
  have cl : ∀ {l : List Str} {a b : Option Int}, (∀ t ∈ l, Vl t) → ∀ t ∈ cutL l a b, Vl t := fun h t ht => h t ((cut_sub _ _ _).mem ht)
  have ll : ∀ {l : List Str} {a b : Option Int}, (cutL l a b).length ≤ l.length := (cut_sub _ _ _).length_le
  have l1 := ll (l := new) (a := none) (b := some 1)
  have l2 := ll (l := new) (a := none) (b := some 4)
  have l3 := ll (l := new) (a := some 1) (b := none)
  have l4 := ll (l := us) (a := some 1) (b := none)
  have l5 := ll (l := us) (a := none) (b := some 1)
  obtain ⟨w0, wr, hw0⟩ : ∃ w0 wr, ws = w0 :: wr := by
    cases ws with
    | nil => cases w1
    | cons a l => exact ⟨a, l, rfl⟩
  have vw0 : Vl w0 := (w3 w0 (by rw [hw0]; simp)).vl
  have uw0 : isUnk w0 = false := (w3 w0 (by rw [hw0]; simp)).unk
  rw [Pg.req_t (le_sz (by omega)), Pg.bind_ret, show Pg.at_ ws 0 = .ret w0 by rw [hw0]; exact at_0, Pg.bind_ret, Pg.bind_ret, Pg.req_t (le_sz (by simp; omega)), Pg.bind_ret, Pg.req_t (le_sz (by omega)), Pg.bind_ret, Pg.bind_ret]
  refine Rn.seq 1 (Rn.one (by simp) (by simp)) (by decide) fun z6 hz6 => ?_
  have vz6 : ∀ t ∈ z6, Vl t := by
    simp only [List.mem_cons, List.not_mem_nil, or_false] at hz6
    intro t ht
    rcases hz6 with rfl | rfl | rfl | rfl | rfl | rfl
    · exact vn2 t ht
    · exact vn2 t ht
    · rcases List.mem_append.mp ht with ht | ht
      · exact cl vn2 t ht
      · exact cl vn2 t ht
    · rcases List.mem_append.mp ht with ht | ht
      · rw [List.mem_singleton.mp ht]; exact vw0
      · exact cl vn2 t ht
    · exact vu t (List.mem_reverse.mp ht)
    · rcases List.mem_append.mp ht with ht | ht
      · exact cl vu t ht
      · exact cl vu t ht
  rw [Pg.bind_ret, Pg.bind_ret, t_law_put_eq fs (by decide) (by decide), Pg.bind_ret, ren_f]
  have fso : Fs 8 5 (renf (nmf (dmerge (us.zip z6))) one) := fs.ren fun v hv => by
    rcases nmf_zip_mem (o := us) (n := z6) v with e | ⟨_, e⟩
    · rw [e]; exact fs.val hv
    · exact vz6 _ e
  have huo : (unkOf (renf (nmf (dmerge (us.zip z6))) one)).length ≤ 5 := Nat.le_trans (unk_ren_le fun v hv hq => by
    rcases nmf_zip_mem (o := us) (n := z6) v with e | ⟨h1, _⟩
    · rw [e]; exact hq
    · rw [(unks_vl (u3 v h1)).2] at hq; cases hq) hu
  refine Rn.seq 1 (Rn.draws (by decide) (by decide)) (by decide) fun z hz => ?_
  rw [Pg.bind_ret]
  refine Rn.seq (P := fun o : Sto => Fs 8 5 o ∧ (unkOf o).length ≤ 5) 36 (Rn.ite (fun hc => ?_) fun hc => Rn.ret ⟨fso, huo⟩) (by decide) fun o1 ho1 => ?_
  · rw [Pg.bind_ret]
    refine Rn.seq 36 (rn_store kinds (ws ++ us) 7 kn (by omega) vn (by rw [List.length_append]; omega) (fun kd hkd => (k4 kd hkd).2) (by decide)) (by decide) fun o2 h2 => Rn.ret ⟨DFact.fs (by omega) h2.2.2 (fun kd hkd => ⟨(k4 kd hkd).1.vl, (k4 kd hkd).2.2⟩) vl, ?_⟩
    exact u1 ▸ unk_le (unk_sub (s := o2) wun (fun v hv => dfact_val h2.2.2 hv))
  refine Rn.seq 1 (Rn.draws (by decide) (by decide)) (by decide) fun z' hz' => ?_
  rw [Pg.bind_ret]
  refine Rn.seq (P := fun o : Sto => Fs 8 5 o ∧ (unkOf o).length ≤ 5) 0 (Rn.ite (fun hc => ?_) fun hc => Rn.ret ho1) (by decide) fun o3 ho3 => ?_
  · rw [Pg.bind_ret]
    have sl := cut_sub o1 (some 1) none
    exact Rn.ret ⟨ho1.1.sub (Nat.le_trans sl.length_le ho1.1.1) fun a ha => sl.mem ha, Nat.le_trans (nodup_le _ _ (unk_nodup _) (unk_mono fun a ha => sl.mem ha)) ho1.2⟩
  obtain ⟨f3, h3⟩ := ho3
  have sh2 : shOk (eL (eT (eT D.str)) [one, o3]) = true := stL_sh (n := 8) (m := 5) (by decide) (by decide) (by simp) fun s hs => by
    simp only [List.mem_cons, List.not_mem_nil, or_false] at hs
    rcases hs with rfl | rfl
    · exact fs
    · exact f3
  rw [Pg.req_t sh2, Pg.bind_ret, t_law_plain_eq fs (by decide) (by decide) (by omega), Pg.bind_ret, t_law_plain_eq f3 (by decide) (by decide) (by omega), Pg.bind_ret, Pg.bind_ret]
  rw [t_same_eq fs f3 (by decide) (by decide) (by omega) (by omega), Pg.bind_ret, t_same_eq f3 fs (by decide) (by decide) (by omega) (by omega), Pg.bind_ret, t_same_eq fs fs (by decide) (by decide) (by omega) (by omega), Pg.bind_ret, Pg.bind_ret]
  have e1 : decide (plainF o3 = plainF one) = decide (plainF one = plainF o3) := by
    rw [decide_eq_decide]; exact ⟨Eq.symm, Eq.symm⟩
  have e2 : decide (plainF one = plainF one) = true := decide_eq_true rfl
  rw [e1, e2, Pg.req_t (bl_sh (by simp)), Pg.bind_ret, Pg.bind_ret, Pg.bind_ret]
  simp only [decide_true, Bool.not_true, Bool.false_eq_true, if_false]
  rw [Pg.bind_ret, Pg.bind_ret]
  simp only [decide_true, Bool.not_true, Bool.false_eq_true, if_false]
  exact Rn.ret trivial))
end DL

open PySem PySem.W PyProof.Rows
set_option maxHeartbeats 0 in
theorem PySem.Challenge.cw_corestore_k06_same_but_for_names_holds : PySem.Challenge.rw_corestore_k06_same_but_for_names.Holds := by
  w_on; o_law; k_head; (case hw => w_witness2)
  k_fill
  refine DL.top_law (l := PySem.Challenge.rw_corestore_k06_same_but_for_names) (n := 63) (k := 5) (x := "_law_script") (qual := "law") (st := DL.s_law) rfl (by decide) rfl ⟨rfl, by decide, by decide⟩ DL.sc_law (fun w h Y => PySem.W.kIn_of Y) ?F
  case F =>
    intro w mg fa h KX G hmg
    refine' DL.all_mk DL.law_math KX G hmg ?a1 ?l1 ?c1 ?k1 ?a2 ?l2 ?c2 ?k2 ?a3 ?l3 ?c3 ?k3 ?a4 ?l4 ?c4 ?k4 ?a5 ?l5 ?c5 ?k5 ?a6 ?l6 ?c6 ?k6 ?a7 ?l7 ?c7 ?k7 ?a8 ?l8 ?c8 ?k8 ?a9 ?l9 ?c9 ?k9 ?a10 ?l10 ?c10 ?k10 ?a11 ?l11 ?c11 ?k11 ?a12 ?l12 ?c12 ?k12 ?a13 ?l13 ?c13 ?k13 ?a14 ?l14 ?c14 ?k14 ?a15 ?l15 ?c15 ?k15 ?a16 ?l16 ?c16 ?k16 ?a17 ?l17 ?c17 ?k17 ?a18 ?l18 ?c18 ?k18 ?a19 ?l19 ?c19 ?k19 ?a20 ?l20 ?c20 ?k20 ?y_tuple ?y_sorted ?y_set ?y_len ?y_range ?y_str ?y_min ?y_dict ?y_list ?y_zip ?y_repr ?y_int ?y_abs
    (case a1 => k_is); (case l1 => k_is); (case c1 => k_is); (case k1 => k_is); (case a2 => k_is); (case l2 => k_is); (case c2 => k_is); (case k2 => k_is); (case a3 => k_is); (case l3 => k_is); (case c3 => k_is); (case k3 => k_is); (case a4 => k_is); (case l4 => k_is); (case c4 => k_is); (case k4 => k_is); (case a5 => k_is); (case l5 => k_is); (case c5 => k_is); (case k5 => k_is); (case a6 => k_is); (case l6 => k_is); (case c6 => k_is); (case k6 => k_is); (case a7 => k_is); (case l7 => k_is); (case c7 => k_is); (case k7 => k_is); (case a8 => k_is); (case l8 => k_is); (case c8 => k_is); (case k8 => k_is); (case a9 => k_is); (case l9 => k_is); (case c9 => k_is); (case k9 => k_is); (case a10 => k_is); (case l10 => k_is); (case c10 => k_is); (case k10 => k_is); (case a11 => k_is); (case l11 => k_is); (case c11 => k_is); (case k11 => k_is); (case a12 => k_is); (case l12 => k_is); (case c12 => k_is); (case k12 => k_is); (case a13 => k_is); (case l13 => k_is); (case c13 => k_is); (case k13 => k_is); (case a14 => k_is); (case l14 => k_is); (case c14 => k_is); (case k14 => k_is); (case a15 => k_is); (case l15 => k_is); (case c15 => k_is); (case k15 => k_is); (case a16 => k_is); (case l16 => k_is); (case c16 => k_is); (case k16 => k_is); (case a17 => k_is); (case l17 => k_is); (case c17 => k_is); (case k17 => k_is); (case a18 => k_is); (case l18 => k_is); (case c18 => k_is); (case k18 => k_is); (case a19 => k_is); (case l19 => k_is); (case c19 => k_is); (case k19 => k_is); (case a20 => k_is); (case l20 => k_is); (case c20 => k_is); (case k20 => k_is); (case y_tuple => k_is); (case y_sorted => k_is); (case y_set => k_is); (case y_len => k_is); (case y_range => k_is); (case y_str => k_is); (case y_min => k_is); (case y_dict => k_is); (case y_list => k_is); (case y_zip => k_is); (case y_repr => k_is); (case y_int => k_is); (case y_abs => k_is)
