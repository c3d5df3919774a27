import PyProof.Rows.All
import HandS.ForMost
import HandS.Exc
import HandS.ExcOwn
import HandS.WordsExc
import HandS.IsInst
import HandS.CallSlots
import HandS.TupAny
import HandS.ExcInit
import HandS.TupLe
import HandS.Deep
import HandS.WordsDict
import HandS.StrMore
import HandS.More
import HandS.Zip
import HandS.Text
import HandS.Ends
import HandS.RaiseMore
import KE.DataMinMax
import HandS.SortKw
import HandS.Set
import KE.SortData
import PyProof.Rows.SetFrom
import HandS.TupSets
import PyProof.Rows.StrMul
import KE.KDictPairs
import HandS.SetKeys
import HandS.Iter
import HandS.Style
import HandS.ListItems
import PyProof.Transfer
import KE.GoesMore
import KE.KDictZip
import KE.DataMinKey
import PyProof.NeKinds
import HandS.NoneIn
import HandS.TryOnly
import HandS.Flow
import HandS.Conv
import HandS.TupMul
import PyProof.StrLawsIn
import HandS.Replace
import HandS.ExcIs
import HandS.ExcField
import KE.KExcIs
import KE.DataCmp
import HandS.Strs
import HandS.MakeKwOnly
import HandS.Property
import HandS.ExcValue
import PyProof.InstNe
import PyProof.FitsInt
import PyProof.StrLawsRepr
import KE.KIntText
import PySem.Challenge.RW_corestore_k31_errors_made_by_hand
set_option Elab.async false
set_option linter.all false
set_option maxRecDepth 100000
/-! part nought: tuples made, known to be plain -/
namespace DL
open PySem PySem.Spec L2 PyProof.Rows PySem.W
/-- a new tuple, its object known -/
def NewT (H : Hp) (xs : List V) (Q : VK) : Prop := ∀ (p : Addr) (o : Obj), H p = none → o.dict = none → Q (.ref p) (upd H p (.frz o (.tup xs)))
section
variable {X : Cx}
theorem laid_tup {pins : List (Addr × Obj)} {σ : L2.St} {H : Hp} {s : Shared} {xs : List V} {its : List Value} {Q : VK} (I : L2.Inv X pins σ H s) (r : Vals xs its) (hz : xs.length ≤ sizeLine) (q : NewT H xs Q) :
    ∃ x H', L2.Inv X pins σ H' { s with heap := s.heap.push { cls := .type "tuple", data := .seq its.toArray } } ∧ RelV x (.ref s.heap.objs.size) ∧ Q x H' := by
  refine ⟨.ref s.heap.objs.size, _, I.laid (t' := s.toks) (o := .frz { cls := .type "tuple", data := .seq its.toArray } (.tup xs)) (fun b ob q => Heap.get?_push_of_some _ q) (Nat.le_refl _) ?_, rfl, q _ _ (I.hok.fresh (Nat.le_refl _)) rfl⟩
  exact ⟨Heap.get?_push_size _ rfl, hz, its, r, IsTup.new _ _⟩
/-- t + u -/
def rCatF (K : PySem.W.Frag) : R2 := fun x y H Q => ∃ a b xs ys, x = .ref a ∧ y = .ref b ∧ SqT K H a xs ∧ SqT K H b ys ∧ xs.length + ys.length ≤ sizeLine ∧
  (xs = [] → Q (.ref b) H) ∧ (xs ≠ [] → ys = [] → Q (.ref a) H) ∧ (xs ≠ [] → ys ≠ [] → NewT H (xs ++ ys) Q)
theorem op_catF : OpR X (binaryOp .Add) (rCatF X.K) := by
  intro pins s σ H x y v u Q I rx ry h
  obtain ⟨a, b, xs, ys, rfl, rfl, ha, hb, hz, q0, q1, q2⟩ := h
  by_cases hx : xs = []
  · exact op_catA pins s σ H _ _ v u Q I rx ry ⟨a, b, xs, ys, rfl, rfl, ha, hb, hz, q0, q1, fun z => absurd hx z⟩
  · cases rx
    cases ry
    obtain ⟨its, r1, p1, _⟩ := I.tuple ha
    obtain ⟨its2, r2, p2, _⟩ := I.tuple hb
    refine HT.cat_tup p1 p2 (fun z => hx (r1.nil_iff.mp z)) (fun z => ⟨.ref a, H, I, rfl, q1 hx (r2.nil_iff.mp z)⟩) (fun z => ?_) (by rw [← r1.length, ← r2.length]; exact hz)
    exact laid_tup I (r1.append r2) (by rw [List.length_append]; exact hz) (q2 hx fun w => z (r2.nil_iff.mpr w))
/-- t[lo:hi] -/
def rSlF (K : PySem.W.Frag) : V → Option Int → Option Int → Hp → VK → Prop := fun x lo hi H Q => ∃ a xs, x = .ref a ∧ SqT K H a xs ∧
  (HT.sIx xs.length 0 lo = 0 ∧ HT.sIx xs.length xs.length hi = xs.length → Q (.ref a) H) ∧ (¬ (HT.sIx xs.length 0 lo = 0 ∧ HT.sIx xs.length xs.length hi = xs.length) → NewT H (cutV xs lo hi) Q)
/-- a tuple's display -/
def tTupF (t : TA) : TE := fun σ H Q => t σ H fun xs H1 => xs.length ≤ sizeLine ∧ NewT H1 xs Q
theorem pe_tupF {es : List Expr} {t : TA} {pos : Pos} {x1} (h : PA X es t) : PE X (.Tuple es x1 pos) (tTupF t) := by
  refine ⟨fun pins s σ H Q I hq => ?_⟩
  refine wpAny_Tuple_spliced (thn (h.run pos pins s σ H _ I hq) fun us s1 ⟨xs, H1, I1, r, z, q⟩ => ⟨by rw [← r.length]; exact z, ?_⟩)
  exact laid_tup I1 r z q
end
end DL

/-! part one: plain data, and how it stands in the abstract heap -/
namespace DL
open PySem PySem.Spec L2

/-- plain data -/
inductive D where
  | non
  | bl (b : Bool)
  | int (i : Int)
  | str (s : Str)
  | tup (l : List D)
  | lst (l : List D)
  | dct (ks : List Key) (vs : List D)
  | deck
  | obj (a : Addr)

/-- an error in flight: its class, its fields -/
structure XD where
  cls : Str
  fs : List (Str × D)

/-- where the deck stands, and the numbers that it draws from -/
abbrev DkT := Option (Addr × Addr)
/-- what stands in the store: a list, a thing of a class with fields -/
inductive OS where
  | lst (l : List D)
  | ins (x : Str) (fs : List (Str × D))
  | err (x : Str) (fs : List (Str × D))
/-- draws that are left; the lists and things that may change -/
structure Gn where
  k : Nat
  sto : List (Addr × OS)
def slook : List (Addr × OS) → Addr → Option OS
  | [], _ => none
  | p :: l, a => if p.1 = a then some p.2 else slook l a
/-- may change -/
def Mu (n : Gn) (a : Addr) : Prop := slook n.sto a ≠ none
def IsD0 (dk : DkT) (a : Addr) : Prop := ∃ p s, dk = some (p, s) ∧ (a = p ∨ a = s)
/-- the deck, or what may change -/
def IsDk (dk : DkT) (n : Gn) (a : Addr) : Prop := IsD0 dk a ∨ Mu n a
def isTupD : D → Bool
  | .tup _ => true
  | _ => false
/-- tuples all: what dict(..) may be made of -/
def tupsB (ds : List D) : Bool := ds.all isTupD
/-- a tuple of which the object itself is known -/
def PlT (K : PySem.W.Frag) (H : Hp) (a : Addr) : Prop := (∃ (o : Obj) (xs : List V), H a = some (.frz o (.tup xs)) ∧ o.dict = none) ∨ ∃ o, K.lookup a = some o ∧ o.dict = none
theorem PlT.mono {K : PySem.W.Frag} {H H' : Hp} {a : Addr} (hf : ∀ a ob u, H a = some (.frz ob u) → H' a = some (.frz ob u)) (h : PlT K H a) : PlT K H' a := by
  rcases h with ⟨o, xs, h, d⟩ | h
  · exact .inl ⟨o, xs, hf _ _ _ h, d⟩
  · exact .inr h
mutual
/-- v stands for the data d in H; lists and dicts within avoid A; dk: where the deck stands -/
inductive Rp (K : PySem.W.Frag) (dk : DkT) (H : Hp) (A : Addr → Prop) : V → D → Prop
  | non : Rp K dk H A .non .non
  | bl (b : Bool) : Rp K dk H A (.bl b) (.bl b)
  | int (i : Int) : Rp K dk H A (.int i) (.int i)
  | str {s : Str} : PyData.strOk s = true → Rp K dk H A (.str s) (.str s)
  | tup {a : Addr} {xs : List V} {ds : List D} : SqT K H a xs → RpL K dk H A xs ds → (tupsB ds = true → PlT K H a) → Rp K dk H A (.ref a) (.tup ds)
  | lst {a : Addr} {xs : List V} {ds : List D} : H a = some (.lst xs) → ¬ A a → RpL K dk H A xs ds → Rp K dk H A (.ref a) (.lst ds)
  | dct {a : Addr} {kvs : List (Key × V)} {ks : List Key} {ds : List D} : Rd H a (.dK kvs) → ¬ A a → kvs.map (·.1) = ks → RpL K dk H A (kvs.map (·.2)) ds → Rp K dk H A (.ref a) (.dct ks ds)
  | deck {a s : Addr} : dk = some (a, s) → Rp K dk H A (.ref a) .deck
  | obj {a : Addr} : Rp K dk H A (.ref a) (.obj a)
inductive RpL (K : PySem.W.Frag) (dk : DkT) (H : Hp) (A : Addr → Prop) : List V → List D → Prop
  | nil : RpL K dk H A [] []
  | cons {v : V} {vs : List V} {d : D} {ds : List D} : Rp K dk H A v d → RpL K dk H A vs ds → RpL K dk H A (v :: vs) (d :: ds)
end

section
variable {K : PySem.W.Frag} {dk : DkT} {H H' : Hp} {A B : Addr → Prop}

theorem RpL.length : ∀ {vs : List V} {ds : List D}, RpL K dk H A vs ds → vs.length = ds.length
  | _, _, .nil => rfl
  | _, _, .cons _ t => by simp [RpL.length t]
theorem RpL.append : ∀ {vs ws : List V} {ds es : List D}, RpL K dk H A vs ds → RpL K dk H A ws es → RpL K dk H A (vs ++ ws) (ds ++ es)
  | _, _, _, _, .nil, s => s
  | _, _, _, _, .cons r t, s => .cons r (RpL.append t s)
theorem RpL.get : ∀ {vs : List V} {ds : List D} {i : Nat} {v : V}, RpL K dk H A vs ds → vs[i]? = some v → ∃ d, ds[i]? = some d ∧ Rp K dk H A v d
  | _, _, _, _, .nil, e => by simp at e
  | _, _, 0, _, .cons r _, e => by
    simp at e
    subst e
    exact ⟨_, rfl, r⟩
  | _, _, i + 1, _, .cons _ t, e => by
    obtain ⟨d, h1, h2⟩ := RpL.get (i := i) t (by simpa using e)
    exact ⟨d, by simpa using h1, h2⟩
theorem RpL.getD : ∀ {vs : List V} {ds : List D} {i : Nat} {d : D}, RpL K dk H A vs ds → ds[i]? = some d → ∃ v, vs[i]? = some v ∧ Rp K dk H A v d
  | _, _, _, _, .nil, e => by simp at e
  | _, _, 0, _, .cons r _, e => by
    simp at e
    subst e
    exact ⟨_, rfl, r⟩
  | _, _, i + 1, _, .cons _ t, e => by
    obtain ⟨d, h1, h2⟩ := RpL.getD (i := i) t (by simpa using e)
    exact ⟨d, by simpa using h1, h2⟩
theorem RpL.take : ∀ {vs : List V} {ds : List D} (n : Nat), RpL K dk H A vs ds → RpL K dk H A (vs.take n) (ds.take n)
  | _, _, 0, _ => by simp; exact .nil
  | _, _, _ + 1, .nil => by simp; exact .nil
  | _, _, n + 1, .cons r t => by simp; exact .cons r (RpL.take n t)
theorem RpL.drop : ∀ {vs : List V} {ds : List D} (n : Nat), RpL K dk H A vs ds → RpL K dk H A (vs.drop n) (ds.drop n)
  | _, _, 0, r => by simpa using r
  | _, _, _ + 1, .nil => by simp; exact .nil
  | _, _, n + 1, .cons _ t => by simp; exact RpL.drop n t
theorem RpL.set : ∀ {vs : List V} {ds : List D} (i : Nat) {v : V} {d : D}, RpL K dk H A vs ds → Rp K dk H A v d → RpL K dk H A (vs.set i v) (ds.set i d)
  | _, _, _, _, _, .nil, _ => by simp; exact .nil
  | _, _, 0, _, _, .cons _ t, r => by simp; exact .cons r t
  | _, _, i + 1, _, _, .cons r t, q => by simp; exact .cons r (RpL.set i t q)
theorem RpL.mem : ∀ {vs : List V} {ds : List D} {v : V}, RpL K dk H A vs ds → v ∈ vs → ∃ d, d ∈ ds ∧ Rp K dk H A v d
  | _, _, _, .nil, e => by simp at e
  | _, _, _, .cons r t, e => by
    rcases List.mem_cons.mp e with rfl | e
    · exact ⟨_, List.mem_cons_self, r⟩
    · obtain ⟨d, h1, h2⟩ := RpL.mem t e
      exact ⟨d, List.mem_cons_of_mem _ h1, h2⟩

mutual
/-- the heap grows, fewer addresses are avoided -/
theorem Rp.mono (hk : ∀ a o, H a = some o → A a ∨ (∃ xs, o = .tup xs) ∨ (∃ ob u, o = .frz ob u) ∨ (∃ C dx fs, o = .ins C dx fs) ∨ H' a = some o) (ht : ∀ a xs, H a = some (.tup xs) → H' a = some (.tup xs)) (hf : ∀ a ob u, H a = some (.frz ob u) → H' a = some (.frz ob u)) (hB : ∀ a, B a → A a ∨ H a = none) :
    ∀ {v : V} {d : D}, Rp K dk H A v d → Rp K dk H' B v d
  | _, _, .non => .non
  | _, _, .bl b => .bl b
  | _, _, .int i => .int i
  | _, _, .str s => .str s
  | _, _, .tup h t p => by
    refine .tup ?_ (RpL.mono hk ht hf hB t) fun e => (p e).mono hf
    rcases h with (h | ⟨o, h⟩) | h
    · exact .inl (.inl (ht _ _ h))
    · exact .inl (.inr ⟨o, hf _ _ _ h⟩)
    · exact .inr h
  | _, _, .lst h n t => by
    refine .lst ?_ (fun z => (hB _ z).elim n fun z => by rw [h] at z; cases z) (RpL.mono hk ht hf hB t)
    rcases hk _ _ h with z | ⟨_, z⟩ | ⟨_, _, z⟩ | ⟨_, _, _, z⟩ | z
    · exact absurd z n
    · cases z
    · cases z
    · cases z
    · exact z
  | _, _, .dct h n e t => by
    refine .dct ?_ (fun z => (hB _ z).elim n fun z => by
      rcases h with h | ⟨o, h⟩
      · rw [h] at z; cases z
      · rw [h] at z; cases z) e (RpL.mono hk ht hf hB t)
    rcases h with h | ⟨o, h⟩
    · rcases hk _ _ h with z | ⟨_, z⟩ | ⟨_, _, z⟩ | ⟨_, _, _, z⟩ | z
      · exact absurd z n
      · cases z
      · cases z
      · cases z
      · exact .inl z
    · exact .inr ⟨o, hf _ _ _ h⟩
  | _, _, .deck e => .deck e
  | _, _, .obj => .obj
theorem RpL.mono (hk : ∀ a o, H a = some o → A a ∨ (∃ xs, o = .tup xs) ∨ (∃ ob u, o = .frz ob u) ∨ (∃ C dx fs, o = .ins C dx fs) ∨ H' a = some o) (ht : ∀ a xs, H a = some (.tup xs) → H' a = some (.tup xs)) (hf : ∀ a ob u, H a = some (.frz ob u) → H' a = some (.frz ob u)) (hB : ∀ a, B a → A a ∨ H a = none) :
    ∀ {vs : List V} {ds : List D}, RpL K dk H A vs ds → RpL K dk H' B vs ds
  | _, _, .nil => .nil
  | _, _, .cons r t => .cons (Rp.mono hk ht hf hB r) (RpL.mono hk ht hf hB t)
end
end

mutual
/-- no list, dict or thing within -/
def lf : D → Bool
  | .non | .bl _ | .int _ | .str _ | .deck => true
  | .tup l => lfL l
  | .lst _ => false
  | .dct _ _ => false
  | .obj _ => true
def lfL : List D → Bool
  | [] => true
  | d :: l => lf d && lfL l
end
section
variable {K : PySem.W.Frag} {dk : DkT} {H H' : Hp} {A B : Addr → Prop}
mutual
theorem Rp.lf : ∀ {v : V} {d : D}, DL.lf d = true → Rp K dk H A v d → Rp K dk H B v d
  | _, _, _, .non => .non
  | _, _, _, .bl b => .bl b
  | _, _, _, .int i => .int i
  | _, _, _, .str s => .str s
  | _, _, e, .tup h t p => .tup h (RpL.lf (by simpa [DL.lf] using e) t) p
  | _, _, e, .lst _ _ _ => by simp [DL.lf] at e
  | _, _, e, .dct _ _ _ _ => by simp [DL.lf] at e
  | _, _, _, .deck e => .deck e
  | _, _, _, .obj => .obj
theorem RpL.lf : ∀ {vs : List V} {ds : List D}, lfL ds = true → RpL K dk H A vs ds → RpL K dk H B vs ds
  | _, _, _, .nil => .nil
  | _, _, e, .cons r t => by
    simp only [lfL, Bool.and_eq_true] at e
    exact .cons (Rp.lf e.1 r) (RpL.lf e.2 t)
end
end

/-- between two heaps: all stands but the deck and what may change -/
structure Ext (dk : DkT) (n n' : Gn) (H H' : Hp) : Prop where
  st : ∀ a o, H a = some o → IsDk dk n a ∨ H' a = some o
  up : ∀ a, Mu n a → Mu n' a
  nw : ∀ a, Mu n' a → Mu n a ∨ H a = none
  kp : ∀ a, H a ≠ none → H' a ≠ none
/-- the deck: a list of the script, a place, a rest, a count; n draws are left -/
def most : Nat := 1000000000
def Deck (p s : Addr) (n : Nat) (H : Hp) : Prop :=
  ∃ (ns : List Int) (i l j : Int), H p = some (.lst [.ref s, .int i, .int l, .int j]) ∧ s ≠ p ∧ H s = some (.lst (ns.map V.int)) ∧ ns.length ≤ 63 ∧ 0 ≤ i ∧ 0 ≤ l ∧ 0 ≤ j ∧ j + n ≤ most
/-- the class at a name of the module -/
def ClsAt (K : PySem.W.Frag) (x : Str) (C : Addr) : Prop := PySem.W.nsIn K mainGlobals x = some (some (.ref C))
/-- an error that was made, its dict -/
abbrev exoE (a C : Addr) (d : Option Addr) : HO := .ext fun h => ∃ t1 : Addr,
  h.get? a = some ({ cls := .ref C, dict := d, data := .fields #[.ref t1, .none, .none, .none, .bool false, .none] } : Obj)
abbrev exdE (dx : Addr) (vs : List (Str × V)) : HO := .ext fun h => ∃ mA, h.Ns1 dx mA ∧ ∀ f, RelO (vs.lookup f) (mA f)
/-- what is in the store stands so -/
def StAt (K : PySem.W.Frag) (dk : DkT) (H : Hp) (a : Addr) : OS → Prop
  | .lst l => lfL l = true ∧ ∃ xs, H a = some (.lst xs) ∧ RpL K dk H (fun _ => False) xs l
  | .ins x fs => lfL (fs.map (·.2)) = true ∧ ∃ C dx vs, ClsAt K x C ∧ H a = some (.ins C dx vs) ∧ H dx = some (.own a) ∧ vs.map (·.1) = fs.map (·.1) ∧ RpL K dk H (fun _ => False) (vs.map (·.2)) (fs.map (·.2))
  | .err x fs => lfL (fs.map (·.2)) = true ∧ ∃ C, ClsAt K x C ∧ ((fs = [] ∧ H a = some (exoE a C none)) ∨
      ∃ dx vs, H a = some (exoE a C (some dx)) ∧ H dx = some (exdE dx vs) ∧ vs.map (·.1) = fs.map (·.1) ∧ RpL K dk H (fun _ => False) (vs.map (·.2)) (fs.map (·.2)))
structure VI (K : PySem.W.Frag) (dk : DkT) (n : Gn) (H : Hp) : Prop where
  dck : ∀ p s, dk = some (p, s) → Deck p s n.k H ∧ ¬ Mu n p ∧ ¬ Mu n s
  st : ∀ a o, slook n.sto a = some o → StAt K dk H a o
/-- neither a list nor a thing -/
def Fix : HO → Prop
  | .lst _ => False
  | .ins _ _ _ => False
  | .ext _ => False
  | _ => True
/-- what the store leans on -/
def Fix2 : HO → Prop
  | .tup _ => True
  | .frz _ _ => True
  | .own _ => True
  | .ext _ => True
  | _ => False
theorem VI.lst {K : PySem.W.Frag} {dk : DkT} {n : Gn} {H : Hp} {a : Addr} (vi : VI K dk n H) (h : IsDk dk n a) : ∃ o, H a = some o ∧ ¬ Fix o := by
  rcases h with ⟨p, s, e, h⟩ | h
  · obtain ⟨ns, i, l, j, h1, _, h2, _⟩ := (vi.dck p s e).1
    rcases h with rfl | rfl
    · exact ⟨_, h1, id⟩
    · exact ⟨_, h2, id⟩
  · unfold Mu at h
    cases q : slook n.sto a with
    | none => exact absurd q h
    | some o =>
      have := vi.st a o q
      cases o with
      | lst l => obtain ⟨_, xs, h1, _⟩ := this; exact ⟨_, h1, id⟩
      | ins x fs => obtain ⟨_, C, dx, vs, _, h1, _⟩ := this; exact ⟨_, h1, id⟩
      | err x fs =>
        obtain ⟨_, C, _, ⟨_, h1⟩ | ⟨dx, vs, h1, _⟩⟩ := this
        · exact ⟨_, h1, id⟩
        · exact ⟨_, h1, id⟩
theorem VI.ne {K : PySem.W.Frag} {dk : DkT} {n : Gn} {H : Hp} {a : Addr} (vi : VI K dk n H) (h : IsDk dk n a) : H a ≠ none := by
  obtain ⟨o, e, _⟩ := vi.lst h
  rw [e]; simp
section
variable {K : PySem.W.Frag} {dk : DkT} {H H1 H' : Hp} {A B : Addr → Prop} {n n1 n' : Gn}
/-- what is no list and no thing stands on -/
theorem Ext.fix (vi : VI K dk n H) (e : Ext dk n n' H H') {a : Addr} {o : HO} (h : H a = some o) (f : Fix o) : H' a = some o := by
  rcases e.st a o h with z | z
  · obtain ⟨o', h', f'⟩ := vi.lst z
    rw [h] at h'
    cases h'
    exact absurd f f'
  · exact z
/-- the store's contents know no lists -/
theorem RpL.any {vs : List V} {ds : List D} (h : lfL ds = true) (r : RpL K dk H A vs ds) : RpL K dk H B vs ds := RpL.lf h r
theorem Rp.lf_mono (ht : ∀ a xs, H a = some (.tup xs) → H' a = some (.tup xs)) (hf : ∀ a ob u, H a = some (.frz ob u) → H' a = some (.frz ob u)) {vs : List V} {ds : List D} (h : lfL ds = true) (r : RpL K dk H A vs ds) : RpL K dk H' B vs ds :=
  RpL.lf h (RpL.mono (A := fun _ => True) (B := fun _ => True) (fun _ _ _ => .inl trivial) ht hf (fun _ _ => .inl trivial) (RpL.lf h r))
/-- new objects and others may change -/
theorem VI.on (vi : VI K dk n H) (h : ∀ a, IsDk dk n a → H' a = H a) (hx : ∀ a o, H a = some o → Fix2 o → H' a = some o) : VI K dk n H' where
  dck := fun p s e => by
    obtain ⟨⟨ns, i, l, j, h1, h2, h3, h4⟩, m1, m2⟩ := vi.dck p s e
    exact ⟨⟨ns, i, l, j, (h p (.inl ⟨p, s, e, .inl rfl⟩)).trans h1, h2, (h s (.inl ⟨p, s, e, .inr rfl⟩)).trans h3, h4⟩, m1, m2⟩
  st := fun a o q => by
    have m : IsDk dk n a := .inr (by unfold Mu; rw [q]; simp)
    have ht : ∀ a xs, H a = some (.tup xs) → H' a = some (.tup xs) := fun a xs e => hx a _ e trivial
    have hf : ∀ a ob u, H a = some (.frz ob u) → H' a = some (.frz ob u) := fun a ob u e => hx a _ e trivial
    have s := vi.st a o q
    cases o with
    | lst l =>
      obtain ⟨l0, xs, h1, h2⟩ := s
      exact ⟨l0, xs, (h a m).trans h1, Rp.lf_mono ht hf l0 h2⟩
    | ins C fs =>
      obtain ⟨l0, C, dx, vs, hc, h1, h2, h3, h4⟩ := s
      exact ⟨l0, C, dx, vs, hc, (h a m).trans h1, hx dx _ h2 trivial, h3, Rp.lf_mono ht hf l0 h4⟩
    | err C fs =>
      obtain ⟨l0, C, hc, ⟨e0, h1⟩ | ⟨dx, vs, h1, h2, h3, h4⟩⟩ := s
      · exact ⟨l0, C, hc, .inl ⟨e0, (h a m).trans h1⟩⟩
      · exact ⟨l0, C, hc, .inr ⟨dx, vs, (h a m).trans h1, hx dx _ h2 trivial, h3, Rp.lf_mono ht hf l0 h4⟩⟩
theorem Ext.refl : Ext dk n n H H := ⟨fun _ _ h => .inr h, fun _ h => h, fun _ h => .inl h, fun _ h => h⟩
theorem Ext.trans (a : Ext dk n n1 H H1) (b : Ext dk n1 n' H1 H') : Ext dk n n' H H' where
  st := fun x o h => by
    rcases a.st x o h with z | z
    · exact .inl z
    · rcases b.st x o z with z | z
      · rcases z with z | z
        · exact .inl (.inl z)
        · rcases a.nw x z with z | z
          · exact .inl (.inr z)
          · rw [h] at z; cases z
      · exact .inr z
  up := fun x h => b.up x (a.up x h)
  nw := fun x h => by
    rcases b.nw x h with z | z
    · exact a.nw x z
    · refine .inr (Classical.byContradiction fun q => a.kp x q z)
  kp := fun x h => b.kp x (a.kp x h)
theorem Ext.new {p : Addr} {o : HO} (h : H p = none) : Ext dk n n H (upd H p o) := ⟨fun a u e => .inr (by rw [upd_ne (ne_of_none e h)]; exact e), fun _ h => h, fun _ h => .inl h, fun a q z => by
  by_cases e : a = p
  · exact q (e ▸ h)
  · rw [upd_ne e] at z; exact q z⟩
theorem Ext.same (h : Same H H') : Ext dk n n H H' := ⟨fun a o e => .inr (h a o e), fun _ h => h, fun _ h => .inl h, fun a q z => by
  cases e : H a with
  | none => exact q e
  | some o => rw [h a o e] at z; cases z⟩
/-- what stands for data stands on -/
theorem Rp.ext {v : V} {d : D} (vi : VI K dk n H) (hA : ∀ a, IsDk dk n a → A a) (e : Ext dk n n' H H') (hB : ∀ a, B a → A a ∨ H a = none) (r : Rp K dk H A v d) : Rp K dk H' B v d := by
  refine r.mono (fun a o h => ?_) (fun a xs h => e.fix vi h trivial) (fun a ob u h => e.fix vi h trivial) hB
  rcases e.st a o h with z | z
  · exact .inl (hA a z)
  · exact .inr (.inr (.inr (.inr z)))
theorem RpL.ext {vs : List V} {ds : List D} (vi : VI K dk n H) (hA : ∀ a, IsDk dk n a → A a) (e : Ext dk n n' H H') (hB : ∀ a, B a → A a ∨ H a = none) (r : RpL K dk H A vs ds) : RpL K dk H' B vs ds := by
  induction vs generalizing ds with
  | nil => cases r; exact .nil
  | cons v vs ih =>
    cases r with
    | cons a b => exact .cons (a.ext vi hA e hB) (ih b)
theorem Ext.tup {a : Addr} {xs : List V} (vi : VI K dk n H) (e : Ext dk n n' H H') (h : SqT K H a xs) : SqT K H' a xs := by
  rcases h with (h | ⟨o, h⟩) | h
  · exact .inl (.inl (e.fix vi h trivial))
  · exact .inl (.inr ⟨o, e.fix vi h trivial⟩)
  · exact .inr h
theorem Ext.fresh {p : Addr} {n1 : Gn} (vi' : VI K dk n1 H') (e : Ext dk n n' H H') (h : H' p = none) : H p = none := Classical.byContradiction fun q => e.kp p q h
theorem Rp.newT {p : Addr} {o : HO} {v : V} {d : D} (r : Rp K dk H A v d) (hp : H p = none) : Rp K dk (upd H p o) A v d := r.mono (fun a u q => .inr (.inr (.inr (.inr (by rw [upd_ne (ne_of_none q hp)]; exact q))))) (fun a u q => by rw [upd_ne (ne_of_none q hp)]; exact q) (fun a u w q => by rw [upd_ne (ne_of_none q hp)]; exact q) fun _ z => .inl z
theorem RpL.newT {p : Addr} {o : HO} {v : List V} {d : List D} (r : RpL K dk H A v d) (hp : H p = none) : RpL K dk (upd H p o) A v d := r.mono (fun a u q => .inr (.inr (.inr (.inr (by rw [upd_ne (ne_of_none q hp)]; exact q))))) (fun a u q => by rw [upd_ne (ne_of_none q hp)]; exact q) (fun a u w q => by rw [upd_ne (ne_of_none q hp)]; exact q) fun _ z => .inl z
theorem VI.set {p : Addr} {u u2 : HO} (vi : VI K dk n H) (nd : ¬ IsDk dk n p) (hp : H p = some u) (f : ¬ Fix2 u) : VI K dk n (upd H p u2) := vi.on (fun z h => upd_ne fun e => nd (e ▸ h)) fun a o q f2 => (upd_ne fun e => by rw [e, hp] at q; cases q; exact f f2).trans q
theorem Ext.upd {p : Addr} {o : HO} (e : Ext dk n n' H H') (hp : H p = none) : Ext dk n n' H (L2.upd H' p o) where
  st := fun a u h => (e.st a u h).imp id fun z => by rw [upd_ne (ne_of_none h hp)]; exact z
  up := e.up
  nw := e.nw
  kp := fun a h z => by
    have ne : a ≠ p := fun w => h (by rw [w]; exact hp)
    rw [upd_ne ne] at z
    exact e.kp a h z
end
end DL

/-! part two: what a piece of text computes, upon plain data; how that stands to the readings -/
namespace DL
open PySem PySem.Spec L2

/-- a computation: how many draws are left, what is wanted of a value, of an error -/
abbrev Mo (α : Type) := Gn → (α → Gn → Prop) → (XD → Gn → Prop) → Prop
def ret {α : Type} (a : α) : Mo α := fun n Q _ => Q a n
def bnd {α β : Type} (m : Mo α) (f : α → Mo β) : Mo β := fun n Q X => m n (fun a n' => f a n' Q X) X
def stop {α : Type} : Mo α := fun _ _ _ => False
def need (p : Prop) {α : Type} (m : Mo α) : Mo α := fun n Q X => p ∧ m n Q X
def throwD {α : Type} (x : XD) : Mo α := fun n _ X => X x n
/-- a number below m, any -/
def drawD (m : Int) : Mo D := fun n Q _ => 0 < n.k ∧ 0 < m ∧ m < 1073741824 ∧ ∀ r : Int, 0 ≤ r → r < m → Q (.int r) ⟨n.k - 1, n.sto⟩

/-- what a slot holds: nothing that is known; a value; a list or dict of the def's own -/
inductive EV where
  | no
  | val (d : D)
  | own (d : D)
abbrev Env' := List EV
abbrev DE := Env' → Mo D

structure Cn where
  K : PySem.W.Frag
  mg : Str → Option Value
  dk : DkT
  H0 : Hp
  n0 : Gn
  O : Addr → Prop
  W : WX
  Xq : Env' → XD → Gn → Prop
  gh : List (V × D)
  hid : List Addr

/-- addresses that values avoid -/
def AV (c : Cn) (n : Gn) (own : Nat → Option Addr) (a : Addr) : Prop := c.O a ∨ IsDk c.dk n a ∨ (∃ i, own i = some a) ∨ a ∈ c.hid
/-- an own list or dict -/
def Ow (K : PySem.W.Frag) (dk : DkT) (H : Hp) (A : Addr → Prop) (p : Addr) (d : D) : Prop :=
  match d with
  | .lst ds => ∃ xs, H p = some (.lst xs) ∧ RpL K dk H A xs ds
  | .dct ks ds => ∃ kvs, H p = some (.dK kvs) ∧ kvs.map (·.1) = ks ∧ RpL K dk H A (kvs.map (·.2)) ds
  | _ => False
/-- as a value stands, or an own one -/
def Rw (K : PySem.W.Frag) (dk : DkT) (n : Gn) (H : Hp) (A : Addr → Prop) (v : V) (d : D) : Prop :=
  match d with
  | .lst ds => ∃ p xs, v = .ref p ∧ ¬ IsDk dk n p ∧ H p = some (.lst xs) ∧ RpL K dk H A xs ds
  | .dct ks ds => ∃ p kvs, v = .ref p ∧ ¬ IsDk dk n p ∧ Rd H p (.dK kvs) ∧ kvs.map (·.1) = ks ∧ RpL K dk H A (kvs.map (·.2)) ds
  | d => Rp K dk H A v d

structure ER (c : Cn) (own : Nat → Option Addr) (env : Env') (n : Gn) (σ : St) (H : Hp) : Prop where
  vi : VI c.K c.dk n H
  ext : Ext c.dk c.n0 n c.H0 H
  vi0 : VI c.K c.dk c.n0 c.H0
  lo : ∀ a, c.O a → c.H0 a ≠ none
  val : ∀ (i : Nat) (d : D), env[i]? = some (EV.val d) → ∃ v, σ[i]? = some (some v) ∧ Rp c.K c.dk H (AV c n own) v d
  ow : ∀ (i : Nat) (d : D), env[i]? = some (EV.own d) → ∃ p, own i = some p ∧ σ[i]? = some (some (V.ref p)) ∧ Ow c.K c.dk H (AV c n own) p d
  onl : ∀ (i : Nat) (p : Addr), own i = some p → (∃ d, env[i]? = some (EV.own d)) ∧ c.H0 p = none ∧ ¬ IsDk c.dk n p ∧ H p ≠ none
  inj : ∀ i j p, own i = some p → own j = some p → i = j
  len : σ.length = env.length
  gh : ∀ p ∈ c.gh, Rp c.K c.dk H (AV c n own) p.1 p.2
  hid : ∀ a ∈ c.hid, c.H0 a = none ∧ ¬ IsDk c.dk n a ∧ H a ≠ none ∧ ∀ i, own i ≠ some a

section
variable {c : Cn} {own : Nat → Option Addr} {env : Env'} {n n' : Gn} {σ : St} {H H' : Hp} {A B : Addr → Prop} {K : PySem.W.Frag} {dk : DkT} {p : Addr} {d : D} {v : V}
theorem AV.deck {a : Addr} (h : IsDk c.dk n a) : AV c n own a := .inr (.inl h)
theorem AV.up {a : Addr} (e : Ext c.dk n n' H H') (h : AV c n' own a) : AV c n own a ∨ H a = none := by
  rcases h with z | z | z | z
  · exact .inl (.inl z)
  · rcases z with z | z
    · exact .inl (.inr (.inl (.inl z)))
    · exact (e.nw a z).imp (fun z => .inr (.inl (.inr z))) id
  · exact .inl (.inr (.inr (.inl z)))
  · exact .inl (.inr (.inr (.inr z)))
theorem IsDk.up (e : Ext dk n n' H H') {a : Addr} (h : IsDk dk n' a) : IsDk dk n a ∨ H a = none := by
  rcases h with z | z
  · exact .inl (.inl z)
  · exact (e.nw a z).imp .inr id
theorem IsDk.no (e : Ext dk n n' H H') {a : Addr} (h : H a ≠ none) (nd : ¬ IsDk dk n a) : ¬ IsDk dk n' a := fun z => (z.up e).elim nd h
theorem Rp.rw (vd : ∀ a, IsDk dk n a → A a) (r : Rp K dk H A v d) : Rw K dk n H A v d := by
  cases r with
  | lst h nn t => exact ⟨_, _, rfl, fun e => nn (vd _ e), h, t⟩
  | dct h nn e t => exact ⟨_, _, rfl, fun z => nn (vd _ z), h, e, t⟩
  | non => exact .non
  | bl b => exact .bl b
  | int i => exact .int i
  | str s => exact .str s
  | tup h t p => exact .tup h t p
  | deck e => exact .deck e
  | obj => exact .obj
theorem Ow.rw (h : Ow K dk H A p d) (nd : ¬ IsDk dk n p) : Rw K dk n H A (.ref p) d := by
  cases d with
  | lst ds => obtain ⟨xs, h1, h2⟩ := h; exact ⟨p, xs, rfl, nd, h1, h2⟩
  | dct ks ds => obtain ⟨kvs, h1, h2, h3⟩ := h; exact ⟨p, kvs, rfl, nd, Rd.of h1, h2, h3⟩
  | _ => exact h.elim
theorem Ow.rp (h : Ow K dk H A p d) (nA : ¬ A p) : Rp K dk H A (.ref p) d := by
  cases d with
  | lst ds => obtain ⟨xs, h1, h2⟩ := h; exact .lst h1 nA h2
  | dct ks ds => obtain ⟨kvs, h1, h2, h3⟩ := h; exact .dct (Rd.of h1) nA h2 h3
  | _ => exact h.elim
theorem Ow.some_ (h : Ow K dk H A p d) : ∃ o, H p = some o ∧ (∀ l, o ≠ .tup l) ∧ (∀ ob u, o ≠ .frz ob u) := by
  cases d with
  | lst ds => obtain ⟨xs, h1, h2⟩ := h; exact ⟨_, h1, fun _ z => (by cases z), fun _ _ z => (by cases z)⟩
  | dct ks ds => obtain ⟨kvs, h1, h2, h3⟩ := h; exact ⟨_, h1, fun _ z => (by cases z), fun _ _ z => (by cases z)⟩
  | _ => exact h.elim
theorem Ow.ne (h : Ow K dk H A p d) : H p ≠ none := by
  obtain ⟨o, e, _⟩ := h.some_
  rw [e]; simp
theorem Ow.ext (vi : VI K dk n H) (hA : ∀ a, IsDk dk n a → A a) (e : Ext dk n n' H H') (hB : ∀ a, B a → A a ∨ H a = none) (nd : ¬ IsDk dk n p) (h : Ow K dk H A p d) : Ow K dk H' B p d := by
  cases d with
  | lst ds =>
    obtain ⟨xs, h1, h2⟩ := h
    exact ⟨xs, (e.st p _ h1).resolve_left nd, h2.ext vi hA e hB⟩
  | dct ks ds =>
    obtain ⟨kvs, h1, h2, h3⟩ := h
    exact ⟨kvs, (e.st p _ h1).resolve_left nd, h2, h3.ext vi hA e hB⟩
  | _ => exact h.elim
theorem RpL.less {vs : List V} {ds : List D} (hB : ∀ a, B a → A a) (r : RpL K dk H A vs ds) : RpL K dk H B vs ds := RpL.mono (fun _ _ z => .inr (.inr (.inr (.inr z)))) (fun _ _ z => z) (fun _ _ _ z => z) (fun a z => .inl (hB a z)) r
theorem Rp.less (hB : ∀ a, B a → A a) (r : Rp K dk H A v d) : Rp K dk H B v d := Rp.mono (fun _ _ z => .inr (.inr (.inr (.inr z)))) (fun _ _ z => z) (fun _ _ _ z => z) (fun a z => .inl (hB a z)) r
theorem Ow.less (hB : ∀ a, B a → A a) (h : Ow K dk H A p d) : Ow K dk H B p d := by
  cases d with
  | lst ds => obtain ⟨xs, h1, h2⟩ := h; exact ⟨xs, h1, h2.less hB⟩
  | dct ks ds => obtain ⟨kvs, h1, h2, h3⟩ := h; exact ⟨kvs, h1, h2, h3.less hB⟩
  | _ => exact h.elim
/-- an address that is not tracked is avoided -/
theorem Rp.more (hp : H p = none) {v : V} {d : D} (r : Rp K dk H A v d) : Rp K dk H (fun a => A a ∨ a = p) v d := Rp.mono (fun _ _ z => .inr (.inr (.inr (.inr z)))) (fun _ _ z => z) (fun _ _ _ z => z) (fun a z => z.imp id fun z => by rw [z]; exact hp) r
theorem RpL.more (hp : H p = none) {vs : List V} {ds : List D} (r : RpL K dk H A vs ds) : RpL K dk H (fun a => A a ∨ a = p) vs ds := RpL.mono (fun _ _ z => .inr (.inr (.inr (.inr z)))) (fun _ _ z => z) (fun _ _ _ z => z) (fun a z => z.imp id fun z => by rw [z]; exact hp) r
theorem SqL.ext' {xs : List V} {dk : DkT} (e : Ext dk n n' H H') (nd : ¬ IsDk dk n p) (h : SqL K H p xs) : SqL K H' p xs := by
  rcases h with (h | ⟨o, h⟩) | h
  · exact .inl (.inl ((e.st p _ h).resolve_left nd))
  · exact .inl (.inr ⟨o, (e.st p _ h).resolve_left nd⟩)
  · exact .inr h
theorem Rd.ext' {u : HO} {dk : DkT} (e : Ext dk n n' H H') (nd : ¬ IsDk dk n p) (h : Rd H p u) : Rd H' p u := by
  rcases h with h | ⟨o, h⟩
  · exact .inl ((e.st p _ h).resolve_left nd)
  · exact .inr ⟨o, (e.st p _ h).resolve_left nd⟩
theorem Rd.ne {u : HO} (h : Rd H p u) : H p ≠ none := by
  rcases h with h | ⟨o, h⟩ <;> (rw [h]; simp)
theorem Rw.ext (vi : VI K dk n H) (hA : ∀ a, IsDk dk n a → A a) (e : Ext dk n n' H H') (hB : ∀ a, B a → A a ∨ H a = none) (h : Rw K dk n H A v d) : Rw K dk n' H' B v d := by
  cases d with
  | lst ds => obtain ⟨p, xs, e0, nd, h1, h2⟩ := h; exact ⟨p, xs, e0, IsDk.no e (by rw [h1]; simp) nd, (e.st p _ h1).resolve_left nd, h2.ext vi hA e hB⟩
  | dct ks ds => obtain ⟨p, kvs, e0, nd, h1, h2, h3⟩ := h; exact ⟨p, kvs, e0, IsDk.no e (Rd.ne h1) nd, Rd.ext' e nd h1, h2, h3.ext vi hA e hB⟩
  | non => exact Rp.ext vi hA e hB h
  | bl _ => exact Rp.ext vi hA e hB h
  | int _ => exact Rp.ext vi hA e hB h
  | str _ => exact Rp.ext vi hA e hB h
  | tup _ => exact Rp.ext vi hA e hB h
  | deck => exact Rp.ext vi hA e hB h
  | obj _ => exact Rp.ext vi hA e hB h

theorem Ext.keeps {dk : DkT} {a : Addr} (e : Ext dk n n' H H') (nd : ¬ IsDk dk n a) (h : H a ≠ none) : H' a ≠ none := e.kp a h
theorem ER.go (R : ER c own env n σ H) (e : Ext c.dk n n' H H') (vi : VI c.K c.dk n' H') : ER c own env n' σ H' where
  vi := vi
  ext := R.ext.trans e
  vi0 := R.vi0
  lo := R.lo
  val := fun i d h => by
    obtain ⟨v, h1, h2⟩ := R.val i d h
    exact ⟨v, h1, h2.ext R.vi (fun a z => AV.deck z) e fun _ z => AV.up e z⟩
  ow := fun i d h => by
    obtain ⟨p, h1, h2, h3⟩ := R.ow i d h
    exact ⟨p, h1, h2, h3.ext R.vi (fun a z => AV.deck z) e (fun _ z => AV.up e z) (R.onl i p h1).2.2.1⟩
  onl := fun i p h => by
    obtain ⟨h1, h2, h3, h4⟩ := R.onl i p h
    exact ⟨h1, h2, IsDk.no e h4 h3, e.keeps h3 h4⟩
  inj := R.inj
  len := R.len
  gh := fun p h => (R.gh p h).ext R.vi (fun a z => AV.deck z) e fun _ z => AV.up e z
  hid := fun a h => ⟨(R.hid a h).1, IsDk.no e (R.hid a h).2.2.1 (R.hid a h).2.1, e.keeps (R.hid a h).2.1 (R.hid a h).2.2.1, (R.hid a h).2.2.2⟩
/-- a fresh address is avoided by none -/
theorem ER.notAV (R : ER c own env n σ H) (h : H p = none) : ¬ AV c n own p := by
  rintro (z | z | ⟨i, z⟩ | z)
  · exact R.ext.kp p (R.lo p z) h
  · exact R.vi.ne z h
  · exact (R.onl i p z).2.2.2 h
  · exact (R.hid p z).2.2.1 h
end

/-! ### a value's ways to stand: strong, weak, new -/
inductive Md where
  | s | w | f
def Rm (c : Cn) (n : Gn) (A : Addr → Prop) (H H' : Hp) (m : Md) (v : V) (d : D) : Prop :=
  match m with
  | .s => Rp c.K c.dk H' A v d
  | .w => Rw c.K c.dk n H' A v d
  | .f => ∃ p, v = .ref p ∧ H p = none ∧ ¬ IsDk c.dk n p ∧ ¬ A p ∧ Ow c.K c.dk H' (fun a => A a ∨ a = p) p d
/-- from here on: the computation m, and what is wanted of its value -/
def Go (c : Cn) (own : Nat → Option Addr) (env : Env') (H : Hp) (n : Gn) (md : Md) (m : Mo D) (Q : VK) : Prop :=
  ∃ Qd, m n Qd (c.Xq env) ∧ ∀ d n' v H', Qd d n' → Ext c.dk n n' H H' → VI c.K c.dk n' H' → Rm c n' (AV c n' own) H H' md v d → Q v H'
/-- the reading of an expression that computes t -/
def tX (c : Cn) (md : Md) (t : DE) : TE := fun σ H Q => ∃ own env n, ER c own env n σ H ∧ Go c own env H n md (t env) Q
section
variable {c : Cn} {own : Nat → Option Addr} {env : Env'} {n n' n2 : Gn} {σ : St} {H H1 H' : Hp} {A : Addr → Prop} {md : Md} {m : Mo D} {Q Q' : VK} {v : V} {d : D} {t : DE}
theorem Rm.back (vi1 : VI c.K c.dk n' H1) (e : Ext c.dk n n' H H1) (h : Rm c n2 A H1 H' md v d) : Rm c n2 A H H' md v d := by
  cases md with
  | s => exact h
  | w => exact h
  | f => obtain ⟨p, e1, e2, e3⟩ := h; exact ⟨p, e1, e.fresh vi1 e2, e3⟩
theorem Rm.on {B : Addr → Prop} (vi : VI c.K c.dk n H1) (hA : ∀ a, IsDk c.dk n a → A a) (e : Ext c.dk n n' H1 H') (hB : ∀ a, B a → A a ∨ H1 a = none) (h : Rm c n A H H1 md v d) : Rm c n' B H H' md v d := by
  cases md with
  | s => exact Rp.ext vi hA e hB h
  | w => exact Rw.ext vi hA e hB h
  | f =>
    obtain ⟨p, e1, e2, e3, e4, e5⟩ := h
    exact ⟨p, e1, e2, IsDk.no e e5.ne e3, fun z => (hB p z).elim e4 e5.ne, e5.ext vi (fun a z => .inl (hA a z)) e (fun a z => z.elim (fun z => (hB a z).imp .inl id) fun z => .inl (.inr z)) e3⟩
theorem Rm.weak (hA : ∀ a, IsDk c.dk n a → A a) (h : Rm c n A H H' md v d) : Rm c n A H H' .w v d := by
  cases md with
  | s => exact Rp.rw hA h
  | w => exact h
  | f => obtain ⟨p, e1, e2, e3, e4, e5⟩ := h; subst e1; exact (e5.less fun _ z => .inl z).rw e3
theorem Go.back (R : ER c own env n σ H) (e : Ext c.dk n n' H H1) (vi1 : VI c.K c.dk n' H1) (h : Go c own env H n md m Q) {m' : Mo D} (hm : ∀ Qd, m n Qd (c.Xq env) → m' n' Qd (c.Xq env)) : Go c own env H1 n' md m' Q := by
  obtain ⟨Qd, h1, h2⟩ := h
  exact ⟨Qd, hm Qd h1, fun d n2 v H' q e' vi' r => h2 d n2 v H' q (e.trans e') vi' (r.back vi1 e)⟩
theorem PE.imp {X : Cx} {e : Expr} {t u : TE} (h : PE X e t) (hi : ∀ σ H Q, u σ H Q → t σ H Q) : PE X e u := ⟨fun pins s σ H Q I q => h.run pins s σ H Q I (hi σ H Q q)⟩
theorem PT.imp {X : Cx} {e : Expr} {t u : TT} (h : PT X e t) (hi : ∀ σ H Q, u σ H Q → t σ H Q) : PT X e u := ⟨fun pins s σ H Q I q => h.run pins s σ H Q I (hi σ H Q q)⟩
theorem PA.imp {X : Cx} {e : List Expr} {t u : TA} (h : PA X e t) (hi : ∀ σ H Q, u σ H Q → t σ H Q) : PA X e u := ⟨fun pos pins s σ H Q I q => h.run pos pins s σ H Q I (hi σ H Q q)⟩
theorem PS.imp {X : Cx} {st : Stmt} {t u : TS} (h : PS X st t) (hi : ∀ D σ H, u D σ H → t D σ H) : PS X st u := ⟨fun pins s σ H D I q => h.run pins s σ H D I (hi D σ H q)⟩
theorem PSs.imp {X : Cx} {st : List Stmt} {t u : TS} (h : PSs X st t) (hi : ∀ D σ H, u D σ H → t D σ H) : PSs X st u := ⟨fun pins s σ H D I q => h.run pins s σ H D I (hi D σ H q)⟩
/-- new is strong, strong is weak -/
theorem tX.ofF (h : tX c .s t σ H Q) : tX c .f t σ H Q := by
  obtain ⟨own, env, n, R, Qd, h1, h2⟩ := h
  refine ⟨own, env, n, R, Qd, h1, fun d n' v H' q e vi r => h2 d n' v H' q e vi ?_⟩
  obtain ⟨p, e1, e2, e3, e4, e5⟩ := r
  subst e1
  exact (e5.less fun _ z => .inl z).rp e4
theorem tX.ofS (h : tX c .w t σ H Q) : tX c .s t σ H Q := by
  obtain ⟨own, env, n, R, Qd, h1, h2⟩ := h
  exact ⟨own, env, n, R, Qd, h1, fun d n' v H' q e vi r => h2 d n' v H' q e vi (Rp.rw (fun _ z => AV.deck z) r)⟩
theorem pS_F {X : Cx} {e : Expr} (h : PE X e (tX c .f t)) : PE X e (tX c .s t) := PE.imp h fun _ _ _ q => q.ofF
theorem pW_S {X : Cx} {e : Expr} (h : PE X e (tX c .s t)) : PE X e (tX c .w t) := PE.imp h fun _ _ _ q => q.ofS
theorem pW_F {X : Cx} {e : Expr} (h : PE X e (tX c .f t)) : PE X e (tX c .w t) := pW_S (pS_F h)
end

/-! ### one, two operands -/
def un1 (ta : DE) (f : D → Mo D) : DE := fun env => bnd (ta env) f
def bin2 (ta tb : DE) (f : D → D → Mo D) : DE := fun env => bnd (ta env) fun a => bnd (tb env) fun b => f a b
/-- an operation upon values does what f does upon data -/
def Op1 (c : Cn) (ma md : Md) (r : V → Hp → VK → Prop) (f : D → Mo D) : Prop :=
  ∀ own env n σ H0 H x a Q, ER c own env n σ H → Rm c n (AV c n own) H0 H ma x a → Go c own env H n md (f a) Q → r x H Q
def Op2 (c : Cn) (ma mb md : Md) (r : R2) (f : D → D → Mo D) : Prop :=
  ∀ own env n σ H0 H1 H x y a b Q, ER c own env n σ H → Rm c n (AV c n own) H0 H ma x a → Rm c n (AV c n own) H1 H mb y b → Go c own env H n md (f a b) Q → r x y H Q
section
variable {c : Cn} {ma mb md : Md} {ta tb : DE} {r : V → Hp → VK → Prop} {r2 : R2} {f : D → Mo D} {g : D → D → Mo D} {σ : St} {H : Hp} {Q : VK}
theorem op1_tX (h : Op1 c ma md r f) (q : tX c md (un1 ta f) σ H Q) : tX c ma ta σ H fun x H1 => r x H1 Q := by
  obtain ⟨own, env, n, R, Qd, h1, h2⟩ := q
  refine ⟨own, env, n, R, _, h1, fun d n' v H' q e vi rm => ?_⟩
  refine h own env n' σ H H' v d Q (R.go e vi) rm ⟨Qd, q, fun d2 n2 v2 H2 q2 e2 vi2 r2 => h2 d2 n2 v2 H2 q2 (e.trans e2) vi2 (r2.back vi e)⟩
theorem op2_tX (h : Op2 c ma mb md r2 g) (q : tX c md (bin2 ta tb g) σ H Q) : tX c ma ta σ H fun x H1 => tX c mb tb σ H1 fun y H2 => r2 x y H2 Q := by
  obtain ⟨own, env, n, R, Qd, h1, h2⟩ := q
  refine ⟨own, env, n, R, _, h1, fun a n1 x H1 q e vi ra => ?_⟩
  refine ⟨own, env, n1, R.go e vi, _, q, fun b n2 y H2 q2 e2 vi2 rb => ?_⟩
  refine h own env n2 σ H H1 H2 x y a b Q ((R.go e vi).go e2 vi2) (ra.on vi (fun _ z => AV.deck z) e2 (fun _ z => AV.up e2 z)) rb ⟨Qd, q2, fun d3 n3 v3 H3 q3 e3 vi3 r3 => ?_⟩
  exact h2 d3 n3 v3 H3 q3 ((e.trans e2).trans e3) vi3 (Rm.back vi2 (e.trans e2) r3)
end
end DL

/-! part three: data compared, shown -/
namespace DL
open PySem PySem.Spec L2

mutual
def py : D → PyData
  | .non => .none
  | .bl b => .bool b
  | .int i => .int i
  | .str s => .str s
  | .tup l => .tuple (pyL l)
  | .lst l => .list (pyL l)
  | .dct _ _ => .none
  | .deck => .none
  | .obj _ => .none
def pyL : List D → List PyData
  | [] => []
  | d :: l => py d :: pyL l
end
mutual
/-- data that may be compared and shown -/
def okD : D → Bool
  | .non | .bl _ | .int _ | .str _ => true
  | .tup l | .lst l => okL l
  | .dct _ _ | .deck | .obj _ => false
def okL : List D → Bool
  | [] => true
  | d :: l => okD d && okL l
end
/-- .. nested few levels deep -/
def cmpOk (d : D) : Bool := okD d && decide ((py d).depth ≤ 60)
theorem cmpOk_ok {d : D} (h : cmpOk d = true) : okD d = true := (Bool.and_eq_true_iff.mp h).1
theorem cmpOk_dep {d : D} (h : cmpOk d = true) : (py d).depth ≤ 60 := of_decide_eq_true (Bool.and_eq_true_iff.mp h).2

section
variable {X : Cx} {pins : List (Addr × Obj)} {σ : St} {H H0 : Hp} {s : Shared} {dk : DkT} {A : Addr → Prop}
mutual
theorem Rp.dp {K : PySem.W.Frag} : ∀ {d : D} {v : V}, okD d = true → Rp K dk H A v d → Dp K H v (py d) ∧ (py d).canLay0 = true
  | _, _, _, .non => ⟨.non, rfl⟩
  | _, _, _, .bl b => ⟨.bl b, rfl⟩
  | _, _, _, .int i => ⟨.int i, rfl⟩
  | _, _, _, .str h => ⟨.str _, by simpa [py, PyData.canLay0] using h⟩
  | .tup l, _, e, .tup h t _ => by
    obtain ⟨h1, h2⟩ := RpL.dp (by simpa [okD] using e) t
    exact ⟨.tup h h1, by simpa [py, PyData.canLay0] using h2⟩
  | .lst l, _, e, .lst h _ t => by
    obtain ⟨h1, h2⟩ := RpL.dp (by simpa [okD] using e) t
    exact ⟨.lst (SqL.of h) h1, by simpa [py, PyData.canLay0] using h2⟩
  | _, _, e, .dct _ _ _ _ => by simp [okD] at e
  | _, _, e, .deck _ => by simp [okD] at e
  | _, _, e, .obj => by simp [okD] at e
theorem RpL.dp {K : PySem.W.Frag} : ∀ {ds : List D} {vs : List V}, okL ds = true → RpL K dk H A vs ds → DpAll K H vs (pyL ds) ∧ PyData.canLayAll0 (pyL ds) = true
  | _, _, _, .nil => ⟨.nil, rfl⟩
  | d :: ds, _, e, .cons r t => by
    simp only [okL, Bool.and_eq_true] at e
    obtain ⟨h1, h2⟩ := Rp.dp e.1 r
    obtain ⟨h3, h4⟩ := RpL.dp e.2 t
    exact ⟨.cons h1 h3, by simp [pyL, PyData.canLayAll0, h2, h4]⟩
end
theorem Rw.dp {K : PySem.W.Frag} {d : D} {v : V} (h : okD d = true) (r : Rw K dk n H A v d) : Dp K H v (py d) ∧ (py d).canLay0 = true := by
  cases d with
  | lst ds =>
    obtain ⟨p, xs, e, nd, h1, h2⟩ := r
    subst e
    obtain ⟨h3, h4⟩ := RpL.dp (by simpa [okD] using h) h2
    exact ⟨.lst (SqL.of h1) h3, by simpa [py, PyData.canLay0] using h4⟩
  | dct ks ds => simp [okD] at h
  | non => exact Rp.dp h r
  | bl _ => exact Rp.dp h r
  | int _ => exact Rp.dp h r
  | str _ => exact Rp.dp h r
  | tup _ => exact Rp.dp h r
  | deck => exact Rp.dp h r
  | obj _ => exact Rp.dp h r
theorem shaped_of {d : D} (h : cmpOk d = true) (c : (py d).canLay0 = true) : SeqAt.shaped (py d) = true := by
  unfold SeqAt.shaped
  rw [c, Bool.true_and]
  have := cmpOk_dep h
  exact decide_eq_true (by omega)
end

/-! ### ==, in -/
/-- both are no list, tuple, dict -/
def flat : D → Bool
  | .non | .bl _ | .int _ | .str _ => true
  | _ => false
def eqB (a b : D) : Bool := PyData.eqv (py a) (py b)
def eqD (a b : D) : Mo D := need (cmpOk a = true ∧ cmpOk b = true) (ret (.bl (eqB a b)))
def neD (a b : D) : Mo D := need (cmpOk a = true ∧ cmpOk b = true) (ret (.bl (!eqB a b)))

section
variable {c : Cn} {own : Nat → Option Addr} {env : Env'} {n : Gn} {σ : St} {H H0 : Hp} {m : Md} {v : V} {d : D}
/-- every way to stand, weakly -/
theorem ER.weak (R : ER c own env n σ H) (h : Rm c n (AV c n own) H0 H m v d) : Rw c.K c.dk n H (AV c n own) v d := h.weak fun _ z => AV.deck z
/-- the end of an operation that changes nothing -/
theorem Go.done {md : Md} {Q : VK} {b : D} (R : ER c own env n σ H) (g : Go c own env H n md (ret b) Q) (h : Rm c n (AV c n own) H H md v b) : Q v H := by
  obtain ⟨Qd, h1, h2⟩ := g
  exact h2 b n v H h1 Ext.refl R.vi h
theorem Go.need' {md : Md} {Q : VK} {p : Prop} {m : Mo D} (g : Go c own env H n md (need p m) Q) : p ∧ Go c own env H n md m Q := by
  obtain ⟨Qd, ⟨h0, h1⟩, h2⟩ := g
  exact ⟨h0, Qd, h1, h2⟩
theorem Go.stop' {md : Md} {Q : VK} (g : Go c own env H n md stop Q) : False := by
  obtain ⟨Qd, h1, h2⟩ := g
  exact h1
theorem VI.new {K : PySem.W.Frag} {dk : DkT} {p : Addr} {o : HO} (vi : VI K dk n H) (hp : H p = none) : VI K dk n (upd H p o) := vi.on (fun a h => upd_ne fun e => vi.ne h (by rw [e]; exact hp)) fun a o' e _ => by rw [upd_ne (ne_of_none e hp)]; exact e
/-- a new object -/
theorem Go.new {md : Md} {Q : VK} {b : D} {p : Addr} {o : HO} (R : ER c own env n σ H) (g : Go c own env H n md (ret b) Q) (hp : H p = none) (h : Rm c n (AV c n own) H (upd H p o) md (.ref p) b) : Q (.ref p) (upd H p o) := by
  obtain ⟨Qd, h1, h2⟩ := g
  exact h2 b n _ _ h1 (Ext.new hp) (R.vi.new hp) h
/-- a new tuple, a new list or dict -/
theorem Go.newT {md : Md} {Q : VK} {ds : List D} {xs : List V} (hm : md ≠ .f) (R : ER c own env n σ H) (g : Go c own env H n md (ret (.tup ds)) Q) (h : RpL c.K c.dk H (AV c n own) xs ds) : NewT H xs Q := fun p o hp hd => by
  refine Go.new R g hp ?_
  have r : Rp c.K c.dk (upd H p (.frz o (.tup xs))) (AV c n own) (.ref p) (.tup ds) := .tup (.inl (.inr ⟨o, upd_same⟩)) (h.ext R.vi (fun _ z => AV.deck z) (Ext.new hp) (fun _ z => .inl z)) fun _ => .inl ⟨o, xs, upd_same, hd⟩
  cases md with
  | s => exact r
  | w => exact r.rw fun _ z => AV.deck z
  | f => exact absurd rfl hm
theorem Go.newO {md : Md} {Q : VK} {b : D} {p : Addr} {o : HO} (R : ER c own env n σ H) (g : Go c own env H n md (ret b) Q) (hp : H p = none) (h : Ow c.K c.dk (upd H p o) (fun a => AV c n own a ∨ a = p) p b) : Q (.ref p) (upd H p o) := by
  refine Go.new R g hp ?_
  have nd : ¬ IsDk c.dk n p := fun e => R.vi.ne e hp
  cases md with
  | s => exact (h.less fun _ z => .inl z).rp (R.notAV hp)
  | w => exact (h.less fun _ z => .inl z).rw nd
  | f => exact ⟨p, rfl, hp, nd, R.notAV hp, h⟩
theorem Go.newL {md : Md} {Q : VK} {ds : List D} {p : Addr} {xs : List V} (R : ER c own env n σ H) (g : Go c own env H n md (ret (.lst ds)) Q) (hp : H p = none) (h : RpL c.K c.dk H (AV c n own) xs ds) : Q (.ref p) (upd H p (.lst xs)) :=
  Go.newO R g hp ⟨xs, upd_same, (h.more hp).ext R.vi (fun _ z => .inl (AV.deck z)) (Ext.new hp) (fun _ z => .inl z)⟩
/-- scalars -/
theorem Rm.bl {A : Addr → Prop} {b : Bool} (hm : m ≠ .f) : Rm c n A H0 H m (.bl b) (.bl b) := by
  cases m with
  | s => exact .bl b
  | w => exact .bl b
  | f => exact absurd rfl hm
theorem Rm.int {A : Addr → Prop} {i : Int} (hm : m ≠ .f) : Rm c n A H0 H m (.int i) (.int i) := by
  cases m with
  | s => exact .int i
  | w => exact .int i
  | f => exact absurd rfl hm
theorem Rm.str {A : Addr → Prop} {s : Str} (hm : m ≠ .f) (h : PyData.strOk s = true) : Rm c n A H0 H m (.str s) (.str s) := by
  cases m with
  | s => exact .str h
  | w => exact Rp.str h
  | f => exact absurd rfl hm
theorem Rm.ofS {A : Addr → Prop} (hm : m ≠ .f) (hA : ∀ a, IsDk c.dk n a → A a) (h : Rp c.K c.dk H A v d) : Rm c n A H0 H m v d := by
  cases m with
  | s => exact h
  | w => exact h.rw hA
  | f => exact absurd rfl hm
end

section
variable {c : Cn} {ma mb : Md}
theorem o_eq : Op2 c ma mb .s (rEqD c.K) eqD := by
  intro own env n σ H0 H1 H x y a b Q R ra rb g
  obtain ⟨⟨ha, hb⟩, g⟩ := g.need'
  obtain ⟨d1, l1⟩ := Rw.dp (cmpOk_ok ha) (R.weak ra)
  obtain ⟨d2, l2⟩ := Rw.dp (cmpOk_ok hb) (R.weak rb)
  exact ⟨_, _, d1, d2, shaped_of ha l1, shaped_of hb l2, g.done R (Rp.bl _)⟩
theorem o_ne : Op2 c ma mb .s (rNeD c.K) neD := by
  intro own env n σ H0 H1 H x y a b Q R ra rb g
  obtain ⟨⟨ha, hb⟩, g⟩ := g.need'
  obtain ⟨d1, l1⟩ := Rw.dp (cmpOk_ok ha) (R.weak ra)
  obtain ⟨d2, l2⟩ := Rw.dp (cmpOk_ok hb) (R.weak rb)
  exact ⟨_, _, d1, d2, shaped_of ha l1, shaped_of hb l2, g.done R (Rp.bl _)⟩
end
end DL

/-! part four: order -/
namespace DL
open PySem PySem.Spec L2

mutual
/-- may be asked for < -/
def cpr : PyData → PyData → Bool
  | .int _, .int _ => true
  | .str _, .str _ => true
  | .tuple l, .tuple m => cprL l m
  | _, _ => false
def cprL : List PyData → List PyData → Bool
  | [], _ => true
  | _ :: _, [] => true
  | x :: xs, y :: ys => cpr x y && cprL xs ys
end
mutual
def ltP : PyData → PyData → Bool
  | .int i, .int j => decide (i < j)
  | .str x, .str y => decide (x.cps.toList < y.cps.toList)
  | .tuple l, .tuple m => ltPL l m
  | _, _ => false
def ltPL : List PyData → List PyData → Bool
  | [], [] => false
  | [], _ :: _ => true
  | _ :: _, [] => false
  | x :: xs, y :: ys => if PyData.eqv x y = true then ltPL xs ys else ltP x y
end
mutual
def leP : PyData → PyData → Bool
  | .int i, .int j => decide (i ≤ j)
  | .str x, .str y => !decide (y.cps.toList < x.cps.toList)
  | .tuple l, .tuple m => lePL l m
  | _, _ => false
def lePL : List PyData → List PyData → Bool
  | [], _ => true
  | _ :: _, [] => false
  | x :: xs, y :: ys => if PyData.eqv x y = true then lePL xs ys else leP x y
end

/-- the item at a place, of two rows -/
def at2 (f : PyData → PyData → Bool) (xs ys : List PyData) (j : Nat) : Bool := f (xs.getD j .none) (ys.getD j .none)
/-! ### < and <= of two values -/
def ltB (a b : D) : Bool := ltP (py a) (py b)
def leB (a b : D) : Bool := leP (py a) (py b)
def ordOk (a b : D) : Bool := cmpOk a && cmpOk b && cpr (py a) (py b)
def rLtD (K : PySem.W.Frag) : R2 := fun x y H Q => ∃ d e, Dp K H x d ∧ Dp K H y e ∧ d.canLay0 = true ∧ e.canLay0 = true ∧ d.depth ≤ 60 ∧ e.depth ≤ 60 ∧ cpr d e = true ∧ Q (.bl (ltP d e)) H
def rLeD (K : PySem.W.Frag) : R2 := fun x y H Q => ∃ d e, Dp K H x d ∧ Dp K H y e ∧ d.canLay0 = true ∧ e.canLay0 = true ∧ d.depth ≤ 60 ∧ e.depth ≤ 60 ∧ cpr d e = true ∧ Q (.bl (leP d e)) H
def ltD (a b : D) : Mo D := need (ordOk a b = true) (ret (.bl (ltB a b)))
def leD (a b : D) : Mo D := need (ordOk a b = true) (ret (.bl (leB a b)))
section
variable {c : Cn} {ma mb : Md}
end
end DL

/-! part five: operations upon data -/
namespace DL
open PySem PySem.Spec L2

/-! ### ints, texts, rows put together -/
def strJ (a b : Str) : Str := a ++ b
def addD : D → D → Mo D
  | .int i, .int j => ret (.int (i + j))
  | .str a, .str b => need (a.length + b.length ≤ sizeLine) (ret (.str (a ++ b)))
  | .tup a, .tup b => need (a.length + b.length ≤ sizeLine) (ret (.tup (a ++ b)))
  | .lst a, .lst b => need (a.length + b.length ≤ sizeLine) (ret (.lst (a ++ b)))
  | .int i, .bl b => ret (.int (i + if b then 1 else 0))
  | _, _ => stop
/-- two lists put together: new -/
def catD : D → D → Mo D
  | .lst a, .lst b => need (a.length + b.length ≤ sizeLine) (ret (.lst (a ++ b)))
  | _, _ => stop
def subD : D → D → Mo D
  | .int i, .int j => ret (.int (i - j))
  | _, _ => stop
def mulD : D → D → Mo D
  | .int i, .int j => need (CMul i j) (ret (.int (i * j)))
  | .str a, .int k => need (0 ≤ k ∧ a.length * k.toNat ≤ sizeLine ∧ a.length = 1 ∧ k < 1000000) (ret (.str ⟨(List.replicate k.toNat a.cps.toList).flatten.toArray⟩))
  | .lst a, .int k => need (0 ≤ k ∧ k < 2 ^ 63 ∧ a.length * k.toNat ≤ sizeLine) (ret (.lst (List.replicate k.toNat a).flatten))
  | _, _ => stop
def fdivD : D → D → Mo D
  | .int i, .int j => need (CDiv i j) (ret (.int (i / j)))
  | _, _ => stop
def modD : D → D → Mo D
  | .int i, .int j => need (0 < j) (ret (.int (i % j)))
  | _, _ => stop
def powD : D → D → Mo D
  | .int i, .int j => need (CPow i j) (ret (.int (i ^ j.toNat)))
  | _, _ => stop
def negD : D → Mo D
  | .int i => ret (.int (-i))
  | _ => stop
def gtD : D → D → Mo D
  | .int i, .int j => ret (.bl (decide (j < i)))
  | .str a, .str b => ret (.bl (decide (b.cps.toList < a.cps.toList)))
  | _, _ => stop
def geD : D → D → Mo D
  | .int i, .int j => ret (.bl (decide (j ≤ i)))
  | .str a, .str b => ret (.bl (!decide (a.cps.toList < b.cps.toList)))
  | _, _ => stop
def isNo : D → Bool
  | .non => true
  | _ => false
def isND (a b : D) : Mo D := match b with
  | .non => ret (.bl (isNo a))
  | _ => stop
def notND (a b : D) : Mo D := match b with
  | .non => ret (.bl (!isNo a))
  | _ => stop
/-- a key -/
def keyD : D → Option Key
  | .int i => some (.inl i)
  | .str s => some (.inr s)
  | _ => none
/-- what stands at a key -/
def atK : List Key → List D → Key → Option D
  | k :: ks, d :: ds, x => if k = x then some d else atK ks ds x
  | _, _, _ => none
def hasK (ks : List Key) (k : Key) : Bool := ks.any fun x => decide (x = k)
def inD (a b : D) : Mo D := match b with
  | .lst l => need (cmpOk a = true ∧ cmpOk (.lst l) = true) (ret (.bl (l.any fun z => eqB z a)))
  | .tup l => need (cmpOk a = true ∧ cmpOk (.tup l) = true) (ret (.bl (l.any fun z => eqB z a)))
  | .str z => match a with
    | .str x => need (x.length = 1) (ret (.bl (decide (x.cps.getD 0 0 ∈ z.cps.toList))))
    | _ => stop
  | .dct ks ds => match keyD a with
    | some k => ret (.bl (hasK ks k))
    | none => stop
  | _ => stop
def notInD (a b : D) : Mo D := bnd (inD a b) fun r => match r with
  | .bl t => ret (.bl (!t))
  | _ => stop

theorem strOk_iff {x : Str} : PyData.strOk x = true ↔ ∀ c ∈ x.cps.toList, c < 0x110000 := by
  unfold PyData.strOk
  rw [Array.all_eq_true_iff_forall_mem]
  constructor
  · intro h c hc
    exact of_decide_eq_true (h c (by simpa using hc))
  · intro h c hc
    exact decide_eq_true (h c (by simpa using hc))
theorem strOk_append {x y : Str} (hx : PyData.strOk x = true) (hy : PyData.strOk y = true) : PyData.strOk (x ++ y) = true := by
  rw [strOk_iff] at *
  intro c hc
  have e : (x ++ y).cps.toList = x.cps.toList ++ y.cps.toList := by
    show (x.cps ++ y.cps).toList = _
    simp
  rw [e] at hc
  rcases List.mem_append.mp hc with h | h
  · exact hx c h
  · exact hy c h
theorem strOk_sub {x : Str} {l : List Nat} (hx : PyData.strOk x = true) (h : ∀ c ∈ l, c ∈ x.cps.toList) : PyData.strOk ⟨l.toArray⟩ = true := by
  rw [strOk_iff] at *
  intro c hc
  exact hx c (h c (by simpa using hc))

section
variable {c : Cn} {K : PySem.W.Frag} {dk : DkT} {H : Hp} {A : Addr → Prop} {v : V}
theorem Rp.int' {i : Int} (h : Rp K dk H A v (.int i)) : v = .int i := by cases h; rfl
theorem Rp.bl' {b : Bool} (h : Rp K dk H A v (.bl b)) : v = .bl b := by cases h; rfl
theorem Rp.str' {s : Str} (h : Rp K dk H A v (.str s)) : v = .str s ∧ PyData.strOk s = true := by
  cases h with
  | str h2 => exact ⟨rfl, h2⟩
theorem Rp.tup' {l : List D} (h : Rp K dk H A v (.tup l)) : ∃ a xs, v = .ref a ∧ SqT K H a xs ∧ RpL K dk H A xs l := by
  cases h with
  | tup h2 t _ => exact ⟨_, _, rfl, h2, t⟩
theorem Rp.tupP {l : List D} (h : Rp K dk H A v (.tup l)) : ∃ a xs, v = .ref a ∧ SqT K H a xs ∧ RpL K dk H A xs l ∧ (tupsB l = true → PlT K H a) := by
  cases h with
  | tup h2 t p => exact ⟨_, _, rfl, h2, t, p⟩
theorem Rw.int' {i : Int} (h : Rw K dk n H A v (.int i)) : v = .int i := by cases (show Rp K dk H A v (.int i) from h); rfl
theorem Rw.bl' {b : Bool} (h : Rw K dk n H A v (.bl b)) : v = .bl b := by cases (show Rp K dk H A v (.bl b) from h); rfl
theorem Rw.str' {s : Str} (h : Rw K dk n H A v (.str s)) : v = .str s ∧ PyData.strOk s = true := by
  cases (show Rp K dk H A v (.str s) from h) with
  | str h2 => exact ⟨rfl, h2⟩
theorem Rw.tup' {l : List D} (h : Rw K dk n H A v (.tup l)) : ∃ a xs, v = .ref a ∧ SqT K H a xs ∧ RpL K dk H A xs l := by
  cases (show Rp K dk H A v (.tup l) from h) with
  | tup h2 t _ => exact ⟨_, _, rfl, h2, t⟩
theorem Rw.tupP {l : List D} (h : Rw K dk n H A v (.tup l)) : ∃ a xs, v = .ref a ∧ SqT K H a xs ∧ RpL K dk H A xs l ∧ (tupsB l = true → PlT K H a) := by
  cases (show Rp K dk H A v (.tup l) from h) with
  | tup h2 t p => exact ⟨_, _, rfl, h2, t, p⟩
end

/-! ### the operators -/
def rAddAll (K : PySem.W.Frag) : R2 := fun x y H Q => (rI0 (fun i j => .int (i + j)) x y H Q ∨ (∃ i j, x = .str i ∧ y = .str j ∧ i.length + j.length ≤ sizeLine ∧ Q (.str (i ++ j)) H)) ∨ (rCatF K x y H Q ∨ rCat x y H Q) ∨ ∃ i k, x = .int i ∧ y = .bl k ∧ Q (.int (i + PyProof.Rows.b2i k)) H
theorem op_addAll {X : Cx} : OpR X (binaryOp .Add) (rAddAll X.K) := OpR.or (OpR.or op_add op_add_str) (OpR.or (OpR.or op_catF op_cat) op_add_ib)
def rMulAll : R2 := fun x y H Q => rI CMul (fun i j => .int (i * j)) x y H Q ∨ rRep x y H Q
def rGtAll : R2 := fun x y H Q => rI0 (fun i j => .bl (decide (j < i))) x y H Q ∨ ∃ i j, x = .str i ∧ y = .str j ∧ Q (.bl (decide (j.cps.toList < i.cps.toList))) H
def rGeAll : R2 := fun x y H Q => rI0 (fun i j => .bl (decide (j ≤ i))) x y H Q ∨ ∃ i j, x = .str i ∧ y = .str j ∧ Q (.bl (!decide (i.cps.toList < j.cps.toList))) H
section
variable {c : Cn} {ma mb : Md}
theorem o_add : Op2 c ma mb .s (rAddAll c.K) addD := by
  intro own env n σ H0 H1 H x y a b Q R ra rb g
  have wa := R.weak ra
  have wb := R.weak rb
  unfold addD at g
  split at g
  · rw [wa.int', wb.int']
    exact .inl (.inl ⟨_, _, rfl, rfl, g.done R (Rp.int _)⟩)
  · obtain ⟨h, g⟩ := g.need'
    obtain ⟨e1, k1⟩ := wa.str'
    obtain ⟨e2, k2⟩ := wb.str'
    subst e1 e2
    exact .inl (.inr ⟨_, _, rfl, rfl, h, g.done R (Rp.str (strOk_append k1 k2))⟩)
  · obtain ⟨h, g⟩ := g.need'
    obtain ⟨p, xs, e1, s1, r1, t1⟩ := wa.tupP
    obtain ⟨q, ys, e2, s2, r2, t2⟩ := wb.tupP
    subst e1 e2
    have l1 := r1.length
    have l2 := r2.length
    refine .inr (.inl (.inl ⟨p, q, xs, ys, rfl, rfl, s1, s2, by omega, fun e => ?_, fun e e' => ?_, fun e e' => ?_⟩))
    · subst e
      cases r1
      exact g.done R (Rp.tup s2 r2 t2)
    · subst e'
      cases r2
      rw [List.append_nil] at g
      exact g.done R (Rp.tup s1 r1 t1)
    · exact g.newT (by simp) R (r1.append r2)
  · obtain ⟨h, g⟩ := g.need'
    obtain ⟨p, xs, e1, n1, s1, r1⟩ := wa
    obtain ⟨q, ys, e2, n2, s2, r2⟩ := wb
    subst e1 e2
    have l1 := r1.length
    have l2 := r2.length
    exact .inr (.inl (.inr ⟨p, q, xs, ys, rfl, rfl, s1, s2, by omega, fun p' hp => g.newL R hp (r1.append r2)⟩))
  · rw [wa.int', wb.bl']
    refine .inr (.inr ⟨_, _, rfl, rfl, ?_⟩)
    rename_i i k
    have e : PyProof.Rows.b2i k = (if k then 1 else 0) := by cases k <;> rfl
    rw [e]
    exact g.done R (Rp.int _)
  · exact g.stop'.elim
end

/-! ### in -/
def rInTD (K : PySem.W.Frag) : R2 := fun x y H Q => ∃ d ds, Dp K H x d ∧ Dp K H y (.tuple ds) ∧ SeqAt.shaped d = true ∧ SeqAt.shaped (.tuple ds) = true ∧ Q (.bl (ds.any fun z => PyData.eqv z d)) H
def rNotInTD (K : PySem.W.Frag) : R2 := fun x y H Q => ∃ d ds, Dp K H x d ∧ Dp K H y (.tuple ds) ∧ SeqAt.shaped d = true ∧ SeqAt.shaped (.tuple ds) = true ∧ Q (.bl (!ds.any fun z => PyData.eqv z d)) H
def rInDc : R2 := fun x y H Q => ∃ a o, y = .ref a ∧ DGet H a x o ∧ Q (.bl o.isSome) H
def rNotInDc : R2 := fun x y H Q => ∃ a o, y = .ref a ∧ DGet H a x o ∧ Q (.bl (!o.isSome)) H
def rInAll (K : PySem.W.Frag) : R2 := fun x y H Q => (rInD K x y H Q ∨ rInTD K x y H Q) ∨ rInDc x y H Q ∨ ∃ (c : Nat) (z : Str), x = .str ⟨#[c]⟩ ∧ y = .str z ∧ Q (.bl (decide (c ∈ z.cps.toList))) H
def rNotInAll (K : PySem.W.Frag) : R2 := fun x y H Q => (rNotInD K x y H Q ∨ rNotInTD K x y H Q) ∨ rNotInDc x y H Q ∨ ∃ (c : Nat) (z : Str), x = .str ⟨#[c]⟩ ∧ y = .str z ∧ Q (.bl (!decide (c ∈ z.cps.toList))) H
theorem kV_key {K : PySem.W.Frag} {dk : DkT} {H : Hp} {A : Addr → Prop} {v : V} {d : D} {k : Key} (h : Rw K dk n H A v d) (e : keyD d = some k) : v = kV k := by
  cases d with
  | int i => cases e; exact h.int'
  | str s => cases e; exact h.str'.1
  | _ => cases e
theorem atK_val {K : PySem.W.Frag} {dk : DkT} {H : Hp} {A : Addr → Prop} {k : Key} : ∀ {kvs : List (Key × V)} {ds : List D}, RpL K dk H A (kvs.map (·.2)) ds →
    (match atK (kvs.map (·.1)) ds k with | some d => ∃ v, valV kvs k = some v ∧ Rp K dk H A v d | none => valV kvs k = none)
  | [], _, .nil => rfl
  | (k', v) :: kvs, d :: ds, .cons r t => by
    simp only [List.map_cons, atK]
    by_cases e : k' = k
    · rw [if_pos e]
      exact ⟨v, valV_pos e, r⟩
    · rw [if_neg e]
      have ih := atK_val (k := k) t
      rw [valV_neg (p := (k', v)) e]
      exact ih
theorem contains_val {kvs : List (Key × V)} {k : Key} : hasK (kvs.map (·.1)) k = (valV kvs k).isSome := by
  unfold hasK
  rw [List.any_map, ← valV_any]
  rfl
theorem Rw.dctGet {K : PySem.W.Frag} {dk : DkT} {H : Hp} {A : Addr → Prop} {v : V} {ks : List Key} {ds : List D} {k : Key} (h : Rw K dk n H A v (.dct ks ds)) :
    ∃ a o, v = .ref a ∧ DGet H a (kV k) o ∧ o.isSome = hasK ks k ∧ (match atK ks ds k with | some d => ∃ w, o = some w ∧ Rp K dk H A w d | none => o = none) := by
  obtain ⟨p, kvs, e, nd, h1, h2, h3⟩ := h
  subst h2
  exact ⟨p, valV kvs k, e, .inl ⟨kvs, k, h1, rfl, rfl⟩, contains_val.symm, atK_val h3⟩

section
variable {c : Cn} {ma mb : Md}
end
end DL

/-! part six: items, slices, calls of built-ins -/
namespace DL
open PySem PySem.Spec L2

/-! ### items -/
def ixD (a b : D) : Mo D := match a with
  | .lst l => match b with
    | .int i => match atI l i with | some d => ret d | none => stop
    | _ => stop
  | .tup l => match b with
    | .int i => match atI l i with | some d => ret d | none => stop
    | _ => stop
  | .str z => match b with
    | .int i => match atI z.cps.toList i with | some c => need (z.length ≤ sizeLine) (ret (.str ⟨#[c]⟩)) | none => stop
    | _ => stop
  | .dct ks ds => match keyD b with
    | some k => match atK ks ds k with | some d => ret d | none => stop
    | none => stop
  | _ => stop
def rIxDc : R2 := fun x y H Q => ∃ a v, x = .ref a ∧ DGet H a y (some v) ∧ Q v H
/-- the end of a subscript, whatever comes -/
theorem tail_any {P : Program} {w : World} {A : Around} {E : Value → Shared → Prop} {s : Shared} {ve sl : Expr} {o i : Value} {T id : String} {Q : Value → Shared → Prop} (hT : s.TypeIs o T)
    (hl : typeLookup (.type T) "__getitem__" = pure (some (.builtin id))) (hs : subscripted sl false o i = operate [o, i] (getItem o i)) (h : wpAny (model P w) A (getItem o i) Q E s) :
    wpAny (model P w) A (PyProof.Rows.subscriptTail ve sl o i) Q E s := by
  unfold PyProof.Rows.subscriptTail; refine PySem.wpAny_bind ?_; rw [getitemInPython_of_ne hT.not_modules]
  have go : wpAny (model P w) A (subscripted sl false o i) (fun r s1 => wpAny (model P w) A (letTemporaryGo ve o r >>= fun _ => pure r) Q E s1) E s := by
    rw [hs]; exact wpAny_operating (wpAny_mono h (fun r s1 q => PySem.wpAny_bind (wpAny_letTemporaryGo (wpAny_pure q))) fun _ _ z => z)
  refine PySem.wpAny_bind (wpAny_specialOf hT hl ?_)
  first | exact wpAny_pure (PySem.wpAny_bind go) | exact PySem.wpAny_bind (wpAny_pure (PySem.wpAny_bind go)) | exact PySem.wpAny_bind go
theorem ix_dict {X : Cx} (hu : X.A.units + 1 < cLine) : IxR X rIxDc := by
  intro ve sl pins s σ H x y v u Q I rx ry h hs
  obtain ⟨a, w, rfl, g, q⟩ := h
  cases rx
  exact tail_any (dict_typeIs I g) PySem.F.slot_dict_getitem.lookup hs (d_getItem hu I g ry fun w' s' I' r' => ⟨w, H, I', r', q⟩)
def rIxAll (K : PySem.W.Frag) : R2 := fun x y H Q => (rIxL K x y H Q ∨ rIxT K x y H Q) ∨ rIxDc x y H Q ∨ rIxS x y H Q
theorem ix_all {X : Cx} (hu : X.A.units + 1 < cLine) : IxR X (rIxAll X.K) := IxR.or (IxR.or ix_list ix_tup) (IxR.or (ix_dict hu) ix_str)
theorem atI_rel {K : PySem.W.Frag} {dk : DkT} {H : Hp} {A : Addr → Prop} {xs : List V} {l : List D} {i : Int} {d : D} (r : RpL K dk H A xs l) (h : atI l i = some d) : ∃ v, atI xs i = some v ∧ Rp K dk H A v d := by
  unfold atI at *
  rw [r.length]
  cases e : ixN l.length i with
  | none => rw [e] at h; cases h
  | some j =>
    rw [e] at h
    exact r.getD h
section
variable {c : Cn} {ma mb : Md}
theorem o_ix : Op2 c ma mb .s (rIxAll c.K) ixD := by
  intro own env n σ H0 H1 H x y a b Q R ra rb g
  have wa := R.weak ra
  have wb := R.weak rb
  unfold ixD at g
  split at g
  · split at g
    · split at g
      · rename_i hd
        obtain ⟨p, xs, e1, n1, s1, r1⟩ := wa
        obtain ⟨v, h1, h2⟩ := atI_rel r1 hd
        exact .inl (.inl ⟨p, xs, _, v, e1, wb.int', SqL.of s1, h1, g.done R h2⟩)
      · exact g.stop'.elim
    · exact g.stop'.elim
  · split at g
    · split at g
      · rename_i hd
        obtain ⟨p, xs, e1, s1, r1⟩ := wa.tup'
        obtain ⟨v, h1, h2⟩ := atI_rel r1 hd
        exact .inl (.inr ⟨p, xs, _, v, e1, wb.int', s1, h1, g.done R h2⟩)
      · exact g.stop'.elim
    · exact g.stop'.elim
  · split at g
    · split at g
      · rename_i hd
        obtain ⟨h, g⟩ := g.need'
        obtain ⟨e1, k1⟩ := wa.str'
        refine .inr (.inr ⟨_, _, _, e1, wb.int', h, hd, g.done R (Rp.str (strOk_sub (l := [_]) k1 fun c hc => ?_))⟩)
        have e2 := List.mem_singleton.mp hc
        subst e2
        obtain ⟨j, _, hj, _⟩ := atI_get hd
        exact List.mem_of_getElem? hj
      · exact g.stop'.elim
    · exact g.stop'.elim
  · split at g
    · rename_i k hk
      split at g
      · rename_i d hd
        obtain ⟨p, o, e, g1, g2, g3⟩ := Rw.dctGet (k := k) wa
        rw [hd] at g3
        obtain ⟨w, e2, r2⟩ := g3
        subst e2
        exact .inr (.inl ⟨p, w, e, by rw [kV_key wb hk]; exact g1, g.done R r2⟩)
      · exact g.stop'.elim
    · exact g.stop'.elim
  · exact g.stop'.elim
end

/-! ### slices -/
def cutL {α : Type} (xs : List α) (lo hi : Option Int) : List α := (xs.drop (HT.sIx xs.length 0 lo)).take (HT.sIx xs.length xs.length hi - HT.sIx xs.length 0 lo)
def slD (a : D) (l h : Option Int) : Mo D := match a with
  | .lst xs => ret (.lst (cutL xs l h))
  | .tup xs => ret (.tup (cutL xs l h))
  | .str z => need (z.length ≤ sizeLine) (ret (.str (cutS z l h)))
  | _ => stop
/-- of a list: new -/
def slLD (a : D) (l h : Option Int) : Mo D := match a with
  | .lst xs => ret (.lst (cutL xs l h))
  | _ => stop
def rSlAll (K : PySem.W.Frag) : V → Option Int → Option Int → Hp → VK → Prop := fun x lo hi H Q => (rSlL K x lo hi H Q ∨ rSlF K x lo hi H Q) ∨ rSlS x lo hi H Q
/-- a slice's part -/
abbrev DO := Env' → Mo (Option Int)
def tO (c : Cn) (t : DO) : TO := fun σ H Q => ∃ own env n, ER c own env n σ H ∧ ∃ Qd, t env n Qd (c.Xq env) ∧ ∀ o n' H', Qd o n' → Ext c.dk n n' H H' → VI c.K c.dk n' H' → Q o H'
def noPart : DO := fun _ => ret none
def intPart (t : DE) : DO := fun env => bnd (t env) fun d => match d with | .int i => ret (some i) | _ => stop
def sl3 (ta : DE) (tl th : DO) (f : D → Option Int → Option Int → Mo D) : DE := fun env => bnd (ta env) fun a => bnd (tl env) fun l => bnd (th env) fun h => f a l h
def Op3 (c : Cn) (ma md : Md) (r : V → Option Int → Option Int → Hp → VK → Prop) (f : D → Option Int → Option Int → Mo D) : Prop :=
  ∀ own env n σ H0 H x a l h Q, ER c own env n σ H → Rm c n (AV c n own) H0 H ma x a → Go c own env H n md (f a l h) Q → r x l h H Q
section
variable {c : Cn} {ma mb md : Md} {ta : DE} {tl th : DO} {r : V → Option Int → Option Int → Hp → VK → Prop} {f : D → Option Int → Option Int → Mo D} {σ : St} {H : Hp} {Q : VK}
end

/-! ### calls -/
/-- a call of a built-in with one argument -/
def OpC (c : Cn) (ma md : Md) (r : List V → Hp → VK → Prop) (f : D → Mo D) : Prop :=
  ∀ own env n σ H0 H x a Q, ER c own env n σ H → Rm c n (AV c n own) H0 H ma x a → Go c own env H n md (f a) Q → r [x] H Q
section
variable {c : Cn} {ma mb md : Md} {ta tb : DE} {r : List V → Hp → VK → Prop} {f : D → Mo D} {σ : St} {H : Hp} {Q : VK}
theorem opC_tX (h : OpC c ma md r f) (q : tX c md (un1 ta f) σ H Q) : tCB r (tCons (tX c ma ta) tNil) σ H Q :=
  op1_tX (r := fun x H Q => r [x] H Q) (fun own env n σ H0 H x a Q R ra g => h own env n σ H0 H x a Q R ra g) q
def lenD : D → Mo D
  | .str z => need (z.length ≤ sizeLine) (ret (.int z.length))
  | .lst l => ret (.int l.length)
  | .tup l => ret (.int l.length)
  | .dct ks _ => ret (.int ks.length)
  | _ => stop
def rLenAll (K : PySem.W.Frag) : List V → Hp → VK → Prop := fun xs H Q => (∃ x n, xs = [x] ∧ LenV K x H n ∧ Q (.int n) H) ∨ ∃ a kvs, xs = [V.ref a] ∧ Rd H a (.dK kvs) ∧ Q (.int kvs.length) H
theorem call_lenR {X : Cx} : CallR X (.builtin "len") (fun xs H Q => ∃ a kvs, xs = [V.ref a] ∧ Rd H a (.dK kvs) ∧ Q (.int kvs.length) H) := by
  intro pins s σ H xs us Q I r h
  obtain ⟨a, kvs, rfl, ha, q⟩ := h
  obtain ⟨u, rfl, ru⟩ := vals1 r
  cases ru
  exact d_len I ha fun t s' I' => ⟨.int kvs.length, H, I', ⟨t, rfl⟩, q⟩
theorem call_lenAll {X : Cx} : CallR X (.builtin "len") (rLenAll X.K) := CallR.or call_len call_lenR
theorem o_len : OpC c ma .s (rLenAll c.K) lenD := by
  intro own env n σ H0 H x a Q R ra g
  have wa := R.weak ra
  unfold lenD at g
  split at g
  · obtain ⟨h, g⟩ := g.need'
    obtain ⟨e1, k1⟩ := wa.str'
    subst e1
    exact .inl ⟨_, _, rfl, ⟨h, rfl⟩, g.done R (Rp.int _)⟩
  · obtain ⟨p, xs, e1, n1, s1, r1⟩ := wa
    subst e1
    refine .inl ⟨_, _, rfl, .inl ⟨xs, SqL.of s1, rfl⟩, ?_⟩
    rw [r1.length]
    exact g.done R (Rp.int _)
  · obtain ⟨p, xs, e1, s1, r1⟩ := wa.tup'
    subst e1
    refine .inl ⟨_, _, rfl, .inr ⟨xs, s1, rfl⟩, ?_⟩
    rw [r1.length]
    exact g.done R (Rp.int _)
  · obtain ⟨p, kvs, e1, n1, h1, h2, h3⟩ := wa
    subst e1
    refine .inr ⟨p, kvs, rfl, h1, ?_⟩
    subst h2
    rw [List.length_map] at g
    exact g.done R (Rp.int _)
  · exact g.stop'.elim
def listD : D → Mo D
  | .lst l => ret (.lst l)
  | .tup l => ret (.lst l)
  | _ => stop
def tupleD : D → Mo D
  | .lst l => ret (.tup l)
  | .tup l => ret (.tup l)
  | _ => stop
def intD : D → Mo D
  | .int i => ret (.int i)
  | .bl b => ret (.int (if b then 1 else 0))
  | _ => stop
def absD : D → Mo D
  | .int i => ret (.int (if i < 0 then -i else i))
  | _ => stop
def strD : D → Mo D
  | .int i => need (0 ≤ i ∧ i < 10000000000) (ret (.str (toString i)))
  | _ => stop
def bools : List D → Option (List Bool)
  | [] => some []
  | .bl b :: l => (bools l).map (b :: ·)
  | _ => none
def allD : D → Mo D
  | .lst l => match bools l with | some bs => ret (.bl (bs.all id)) | none => stop
  | _ => stop
def anyD : D → Mo D
  | .lst l => match bools l with | some bs => ret (.bl (bs.any id)) | none => stop
  | _ => stop
end
end DL

/-! part seven: tests, arguments, calls of defs, what a def promises -/
namespace DL
open PySem PySem.Spec L2

/-! ### tests -/
def tT (c : Cn) (t : DE) : TT := fun σ H Q => ∃ own env n, ER c own env n σ H ∧ ∃ Qd, t env n Qd (c.Xq env) ∧ ∀ d n' H', Qd d n' → Ext c.dk n n' H H' → VI c.K c.dk n' H' → ∃ b, d = .bl b ∧ Q b H'
section
variable {X : Cx} {c : Cn} {ta tb tc : DE} {a b e : Expr} {pos : Pos}
/-- both ways of a test -/
def iteM (d : D) (m1 m2 : Mo D) : Mo D := match d with
  | .bl true => m1
  | .bl false => m2
  | _ => stop
def andT (ta tb : DE) : DE := fun env => bnd (ta env) fun d => iteM d (bnd (tb env) fun e => iteM e (ret (.bl true)) (ret (.bl false))) (ret (.bl false))
def orT (ta tb : DE) : DE := fun env => bnd (ta env) fun d => iteM d (ret (.bl true)) (bnd (tb env) fun e => iteM e (ret (.bl true)) (ret (.bl false)))
def notT (ta : DE) : DE := fun env => bnd (ta env) fun d => iteM d (ret (.bl false)) (ret (.bl true))
def ifT (tc ta tb : DE) : DE := fun env => bnd (tc env) fun d => iteM d (ta env) (tb env)
/-- one comparison, as a test -/
theorem pt_cmp' {op : CmpOp} {r : R2} {ma mb : Md} {f : D → D → Mo D} (ho : OpR X (compareOp op) r) (h : Op2 c ma mb .s r f) (ha : PE X a (tX c ma ta)) (hb : PE X b (tX c mb tb)) (hm : behindInMarks op b = false) :
    PT X (.Compare a [op] [b] pos) (tT c (bin2 ta tb f)) := by
  refine PT.imp (pt_cmpR ho ha hb hm) fun σ H Q q => ?_
  obtain ⟨own, env, n, R, Qd, g1, g2⟩ := q
  refine op2_tX (md := .s) h ⟨own, env, n, R, Qd, g1, fun d n' v H' q e vi r => ?_⟩
  obtain ⟨b, eb, qb⟩ := g2 d n' H' q e vi
  subst eb
  cases r
  exact ⟨b, rfl, qb⟩
theorem pe_cmp' {op : CmpOp} {r : R2} {ma mb : Md} {f : D → D → Mo D} (ho : OpR X (compareOp op) r) (h : Op2 c ma mb .s r f) (ha : PE X a (tX c ma ta)) (hb : PE X b (tX c mb tb)) (hm : behindInMarks op b = false) :
    PE X (.Compare a [op] [b] pos) (tX c .s (bin2 ta tb f)) := PE.imp (pe_cmpR ho ha hb hm) fun σ H Q q => op2_tX h q
/-! as values -/
end

/-! ### arguments -/
abbrev DA := Env' → Mo (List D)
def nilA : DA := fun _ => ret []
def consA (t : DE) (u : DA) : DA := fun env => bnd (t env) fun d => bnd (u env) fun ds => ret (d :: ds)
inductive RwL (K : PySem.W.Frag) (dk : DkT) (n : Gn) (H : Hp) (A : Addr → Prop) : List V → List D → Prop
  | nil : RwL K dk n H A [] []
  | cons {v : V} {vs : List V} {d : D} {ds : List D} : Rw K dk n H A v d → RwL K dk n H A vs ds → RwL K dk n H A (v :: vs) (d :: ds)
def RmL (c : Cn) (n : Gn) (A : Addr → Prop) (H : Hp) (m : Md) (vs : List V) (ds : List D) : Prop := match m with
  | .w => RwL c.K c.dk n H A vs ds
  | _ => RpL c.K c.dk H A vs ds
def tA (c : Cn) (md : Md) (k : Nat) (t : DA) : TA := fun σ H Q => ∃ own env n, ER c own env n σ H ∧ ∃ Qd, t env n Qd (c.Xq env) ∧ ∀ ds n' vs H', Qd ds n' → Ext c.dk n n' H H' → VI c.K c.dk n' H' → RmL c n' (AV c n' own) H' md vs ds → vs.length = k → Q vs H'
section
variable {X : Cx} {c : Cn} {t : DE} {u : DA} {e : Expr} {es : List Expr} {pos : Pos} {k : Nat}
theorem pa_nil' {md : Md} : PA X [] (tA c md 0 nilA) := by
  refine PA.imp pa_nil fun σ H Q q => ?_
  obtain ⟨own, env, n, R, Qd, g1, g2⟩ := q
  refine g2 [] n [] H g1 Ext.refl R.vi ?_ rfl
  cases md
  · exact .nil
  · exact .nil
  · exact .nil
theorem pa_consS (h1 : PE X e (tX c .s t)) (h2 : PA X es (tA c .s k u)) (hs : starEach (e :: es) X.env = (false, eval e X.env) :: starEach es X.env) : PA X (e :: es) (tA c .s (k + 1) (consA t u)) := by
  refine PA.imp (pa_cons h1 h2 hs) fun σ H Q q => ?_
  obtain ⟨own, env, n, R, Qd, g1, g2⟩ := q
  refine ⟨own, env, n, R, _, g1, fun d n1 v H1 q e vi r => ?_⟩
  refine ⟨own, env, n1, R.go e vi, _, q, fun ds n2 vs H2 q2 e2 vi2 r2 hk => ?_⟩
  exact g2 _ n2 _ H2 q2 (e.trans e2) vi2 (RpL.cons (Rp.ext vi (fun _ z => AV.deck z) e2 (fun _ z => AV.up e2 z) r) r2) (by simp [hk])
/-- displays -/
def tupT (u : DA) : DE := fun env => bnd (u env) fun ds => need (ds.length ≤ sizeLine) (ret (.tup ds))
def lstT (u : DA) : DE := fun env => bnd (u env) fun ds => need (ds.length ≤ sizeLine) (ret (.lst ds))
theorem pe_tup' {x1} (h : PA X es (tA c .s k u)) : PE X (.Tuple es x1 pos) (tX c .s (tupT u)) := by
  refine PE.imp (pe_tupF h) fun σ H Q q => ?_
  obtain ⟨own, env, n, R, Qd, g1, g2⟩ := q
  refine ⟨own, env, n, R, _, g1, fun ds n1 vs H1 q e vi r _ => ?_⟩
  obtain ⟨hz, q⟩ := q
  have R1 := R.go e vi
  refine ⟨by rw [RpL.length r]; exact hz, ?_⟩
  exact Go.newT (md := .s) (by simp) R1 ⟨Qd, q, fun d2 n2 v2 H2 q2 e2 vi2 r2 => g2 d2 n2 v2 H2 q2 (e.trans e2) vi2 r2⟩ r
theorem pe_lst' (h : PA X es (tA c .s k u)) : PE X (.List es pos) (tX c .f (lstT u)) := by
  refine PE.imp (pe_lst h) fun σ H Q q => ?_
  obtain ⟨own, env, n, R, Qd, g1, g2⟩ := q
  refine ⟨own, env, n, R, _, g1, fun ds n1 vs H1 q e vi r _ => ?_⟩
  obtain ⟨hz, q⟩ := q
  have R1 := R.go e vi
  refine ⟨by rw [RpL.length r]; exact hz, fun p hp => ?_⟩
  exact Go.newL (md := .f) R1 ⟨Qd, q, fun d2 n2 v2 H2 q2 e2 vi2 r2 => g2 d2 n2 v2 H2 q2 (e.trans e2) vi2 (r2.back vi e)⟩ hp r
end

/-! ### what a def promises -/
/-- an error stands so -/
def XRep (K : PySem.W.Frag) (mg : Str → Option Value) (dk : DkT) (H : Hp) (A : Addr → Prop) (xd : XD) (cls : Value) (od : Option Addr) : Prop :=
  ∃ C, mg xd.cls = some (.ref C) ∧ cls = .ref C ∧ ((xd.fs = [] ∧ od = none) ∨ ∃ d fs, od = some d ∧ H d = some (.xd fs) ∧ fs.map (·.1) = xd.fs.map (·.1) ∧ RpL K dk H A (fs.map (·.2)) (xd.fs.map (·.2)))
abbrev MD := List D → Mo D
/-- what is avoided, and what may change by now -/
def AM (A : Addr → Prop) (n : Gn) (a : Addr) : Prop := A a ∨ Mu n a
def spD (K : PySem.W.Frag) (mg : Str → Option Value) (np : Nat) (m : MD) : Sp := fun vs H Q E => vs.length = np ∧
  ∃ (ds : List D) (A : Addr → Prop) (dk : DkT) (n : Gn), RpL K dk H A vs ds ∧ (∀ a, A a → H a ≠ none) ∧ (∀ a, IsDk dk n a → A a) ∧ VI K dk n H ∧ ∃ Qd Xd, m ds n Qd Xd ∧ (∀ xd n', Xd xd n' → lfL (xd.fs.map (·.2)) = true) ∧
    (∀ d n' v H', Qd d n' → Ext dk n n' H H' → VI K dk n' H' → Rp K dk H' (AM A n') v d → Q v H') ∧ (∀ xd n' cls od H', Xd xd n' → Ext dk n n' H H' → VI K dk n' H' → XRep K mg dk H' (AM A n') xd cls od → E cls od H')
/-- a def that is called: its name, how many arguments, what it computes -/
structure FE where
  x : Str
  np : Nat
  m : MD
/-- it stands in the module and keeps its promise -/
def FOk (P : Program) (w : World) (K : PySem.W.Frag) (mg : Str → Option Value) (base : Heap) (k : Nat) (e : FE) : Prop :=
  ∃ (f : Addr) (fd : FuncData) (ps : List Str), mg e.x = some (.ref f) ∧ FnOk P w K mg base (L2.CX P w) k f fd ps (spD K mg e.np e.m) ∧ PySem.W.keepIn K (.ref f) = true ∧ Binds K fd ps []
theorem FOk.mono {P : Program} {w : World} {K : PySem.W.Frag} {mg : Str → Option Value} {base : Heap} {j k : Nat} {e : FE} (h : FOk P w K mg base j e) (hk : j ≤ k) : FOk P w K mg base k e := by
  obtain ⟨f, fd, ps, h1, h2, h3⟩ := h
  exact ⟨f, fd, ps, h1, h2.mono hk, h3⟩
/-- errors reach what is wanted of them -/
def XLink (c : Cn) : Prop := ∀ own env n σ H xd cls od, ER c own env n σ H → XRep c.K c.mg c.dk H (AV c n own) xd cls od → c.Xq env xd n → c.W cls od σ H
def callT (m : MD) (u : DA) : DE := fun env => bnd (u env) m
def callW (m : MD) (u : DA) : DE := fun env => bnd (u env) fun ds => bnd (m ds) fun d => need (lf d = true) (ret d)
section
variable {X : Cx} {c : Cn} {k : Nat} {fe : FE} {u : DA} {e : Expr} {es : List Expr} {p pos : Pos}
theorem AV.am {n n1 : Gn} {own : Nat → Option Addr} {a : Addr} (h : AV c n own a) : AM (AV c n1 own) n a := by
  rcases h with z | z | z
  · exact .inl (.inl z)
  · rcases z with z | z
    · exact .inl (.inr (.inl (.inl z)))
    · exact .inr z
  · exact .inl (.inr (.inr z))
theorem XRep.less {K : PySem.W.Frag} {mg : Str → Option Value} {dk : DkT} {H : Hp} {A B : Addr → Prop} {xd : XD} {cls : Value} {od : Option Addr} (hB : ∀ a, B a → A a) (h : XRep K mg dk H A xd cls od) : XRep K mg dk H B xd cls od := by
  obtain ⟨C, x1, x2, x3⟩ := h
  refine ⟨C, x1, x2, x3.imp id fun ⟨d, fs, y1, y2, y3, y4⟩ => ⟨d, fs, y1, y2, y3, y4.less hB⟩⟩
theorem call_s (hl : XLink c) (hlf : ∀ xd env n, c.Xq env xd n → lfL (xd.fs.map (·.2)) = true) {σ : St} {H : Hp} {Q : VK} (q : tX c .s (callT fe.m u) σ H Q) : tCallS (spD c.K c.mg fe.np fe.m) (WE c.W) (tA c .s fe.np u) σ H Q := by
  obtain ⟨own, env, n, R, Qd, g1, g2⟩ := q
  refine ⟨own, env, n, R, _, g1, fun ds n1 vs H1 q e vi r hlen => ?_⟩
  have R1 := R.go e vi
  have r : RpL c.K c.dk H1 (AV c n1 own) vs ds := r
  refine ⟨hlen, ds, AV c n1 own, c.dk, n1, r, fun a ha z => R1.notAV z ha, fun a z => AV.deck z, vi, Qd, _, q, fun xd n' => hlf xd env n', fun d n2 v H2 q2 e2 vi2 r2 => g2 d n2 v H2 q2 (e.trans e2) vi2 (r2.less fun _ z => AV.am z), fun xd n2 cls od H2 q2 e2 vi2 r2 => ?_⟩
  exact hl own env n2 σ H2 xd cls od (R1.go e2 vi2) (r2.less fun _ z => AV.am z) q2
/-- avoiding all but the arguments themselves -/
def AW (c : Cn) (n : Gn) (own : Nat → Option Addr) (vs : List V) (a : Addr) : Prop := AV c n own a ∧ (IsDk c.dk n a ∨ V.ref a ∉ vs)
theorem RwL.length {K : PySem.W.Frag} {dk : DkT} {H : Hp} {A : Addr → Prop} : ∀ {vs : List V} {ds : List D}, RwL K dk n H A vs ds → vs.length = ds.length
  | _, _, .nil => rfl
  | _, _, .cons _ t => by simp [RwL.length t]
theorem RwL.rp {own : Nat → Option Addr} {H : Hp} {ws : List V} : ∀ {vs : List V} {ds : List D}, (∀ v ∈ vs, v ∈ ws) → RwL c.K c.dk n H (AV c n own) vs ds → RpL c.K c.dk H (AW c n own ws) vs ds
  | _, _, _, .nil => .nil
  | v :: vs, d :: ds, hs, .cons r t => by
    refine .cons ?_ (RwL.rp (fun x hx => hs x (List.mem_cons_of_mem _ hx)) t)
    have hv := hs v List.mem_cons_self
    have mo : ∀ {xs : List V} {l : List D}, RpL c.K c.dk H (AV c n own) xs l → RpL c.K c.dk H (AW c n own ws) xs l := fun h => h.less fun _ z => z.1
    have ms : Rp c.K c.dk H (AV c n own) v d → Rp c.K c.dk H (AW c n own ws) v d := fun h => h.less fun _ z => z.1
    cases d with
    | lst l =>
      obtain ⟨q, xs, e1, n1, s1, r1⟩ := r
      subst e1
      exact .lst s1 (fun z => z.2.elim (fun z => n1 z) fun z => z hv) (mo r1)
    | dct ks l =>
      obtain ⟨q, kvs, e1, n1, h1, h2, h3⟩ := r
      subst e1
      exact .dct h1 (fun z => z.2.elim (fun z => n1 z) fun z => z hv) h2 (mo h3)
    | non => exact ms r
    | bl _ => exact ms r
    | int _ => exact ms r
    | str _ => exact ms r
    | tup _ => exact ms r
    | deck => exact ms r
    | obj _ => exact ms r
end
/-- the call of a def -/
theorem pe_def {P : Program} {w : World} {base : Heap} {X : Cx} {c : Cn} {k : Nat} {fe : FE} {u : DA} {e : Expr} {es : List Expr} {p pos : Pos} {md : Md} {t : DE} (hP : X.prog = P) (hw : X.w = w) (hK : X.K = c.K) (hmg : X.mg = c.mg) (hb : X.base = base)
    (F : FOk P w c.K c.mg base k fe) (hr : Room k X.A) (tk : Takes X c.W) (hg : Gl X fe.x) (ha : PA X (e :: es) (tA c md fe.np u)) (hd : (fe.x == ("__debug__" : Str)) = false) (hs : starEach (e :: es) X.env = (false, eval e X.env) :: starEach es X.env)
    (hpl : (backTo pos (starEach es X.env)).any (·.1) = false) (hq : ∀ σ H Q, tX c .s t σ H Q → tCallS (spD c.K c.mg fe.np fe.m) (WE c.W) (tA c md fe.np u) σ H Q) : PE X (.Call (.Name fe.x p) (e :: es) [] pos) (tX c .s t) := by
  subst hP hw hb
  obtain ⟨f, fd, ps, h1, h2, h3, h4⟩ := F
  rw [← hK, ← hmg] at h2
  refine PE.imp (pe_callS (E := WE c.W) h2 hr hg (by rw [hmg]; exact h1) (by rw [hK]; exact h3) (by rw [hK]; exact h4) (fun σ => passAt tk σ) ha hd hs hpl) fun σ H Q q => ?_
  rw [hK, hmg]
  exact hq σ H Q q
end DL

/-! part eight: statements -/
namespace DL
open PySem PySem.Spec L2

/-! ### list.extend of a tuple -/
def rExtT (K : PySem.W.Frag) : V → List V → Hp → VK → Prop := fun x vs H Q => ∃ l b xs zs, x = .ref l ∧ vs = [.ref b] ∧ H l = some (.lst xs) ∧ SqT K H b zs ∧ xs.length + zs.length ≤ sizeLine ∧ Q .non (upd H l (.lst (xs ++ zs)))
def rExtAll (K : PySem.W.Frag) : V → List V → Hp → VK → Prop := fun x vs H Q => rExtend x vs H Q ∨ rExtT K x vs H Q
structure DK where
  nx : Env' → Gn → Prop
  rt : D → Gn → Prop
  bk : Env' → Gn → Prop := fun _ _ => False
  ct : Env' → Gn → Prop := fun _ _ => False
abbrev XQ := Env' → XD → Gn → Prop
abbrev DS := Env' → DK → XQ → Gn → Prop
def OA (c : Cn) (n : Gn) (a : Addr) : Prop := c.O a ∨ IsDk c.dk n a
structure KL (c : Cn) (k : DK) (D : Ends) : Prop where
  nx : ∀ own env n σ H, k.nx env n → ER c own env n σ H → D.nx σ H
  bk : ∀ own env n σ H, k.bk env n → ER c own env n σ H → D.bk σ H
  ct : ∀ own env n σ H, k.ct env n → ER c own env n σ H → D.ct σ H
  rt : ∀ d n v H, k.rt d n → Ext c.dk c.n0 n c.H0 H → VI c.K c.dk n H → Rp c.K c.dk H (OA c n) v d → D.rt v H
def tS (c : Cn) (t : DS) : TS := fun D σ H => ∃ own env n, ER c own env n σ H ∧ ∃ k, KL c k D ∧ t env k c.Xq n

/-! ### what is known of the slots, changed -/
section
variable {c : Cn} {own : Nat → Option Addr} {env : Env'} {n n' : Gn} {σ : St} {H H' : Hp} {i : Nat} {v : V} {d : D} {p : Addr}
theorem get_set {α : Type} {l : List α} {i j : Nat} {x y : α} (h : (l.set i x)[j]? = some y) : (j = i ∧ i < l.length ∧ y = x) ∨ (j ≠ i ∧ l[j]? = some y) := by
  by_cases e : j = i
  · subst e
    by_cases hl : j < l.length
    · rw [List.getElem?_set_self hl] at h
      exact .inl ⟨rfl, hl, (Option.some.inj h).symm⟩
    · rw [List.getElem?_eq_none (by simpa using hl)] at h
      cases h
  · rw [List.getElem?_set_ne (Ne.symm e)] at h
    exact .inr ⟨e, h⟩
theorem set_get {α : Type} {l : List α} {i j : Nat} {x y : α} (h : l[j]? = some y) (e : j ≠ i) : (l.set i x)[j]? = some y := by rw [List.getElem?_set_ne (Ne.symm e)]; exact h
/-- a slot is forgotten -/
def drop1 (own : Nat → Option Addr) (i : Nat) : Nat → Option Addr := fun j => if j = i then none else own j
theorem AV.drop {a : Addr} (h : AV c n (drop1 own i) a) : AV c n own a := by
  rcases h with h | h | ⟨j, h⟩ | h
  · exact .inl h
  · exact .inr (.inl h)
  · unfold drop1 at h
    split at h
    · cases h
    · exact .inr (.inr (.inl ⟨j, h⟩))
  · exact .inr (.inr (.inr h))
theorem drop_some {j : Nat} (h : drop1 own i j = some p) : j ≠ i ∧ own j = some p := by
  unfold drop1 at h
  split at h
  · cases h
  · exact ⟨by assumption, h⟩
theorem ER.setV (R : ER c own env n σ H) (r : Rp c.K c.dk H (AV c n own) v d) : ER c (drop1 own i) (env.set i (.val d)) n (σ.set i (some v)) H where
  vi := R.vi
  ext := R.ext
  vi0 := R.vi0
  lo := R.lo
  val := fun j d' h => by
    rcases get_set h with ⟨rfl, hl, e⟩ | ⟨ne, h⟩
    · cases e
      exact ⟨v, by rw [List.getElem?_set_self (by rw [R.len]; exact hl)], r.less fun _ z => z.drop⟩
    · obtain ⟨w, h1, h2⟩ := R.val j d' h
      exact ⟨w, set_get h1 ne, h2.less fun _ z => z.drop⟩
  ow := fun j d' h => by
    rcases get_set h with ⟨rfl, hl, e⟩ | ⟨ne, h⟩
    · cases e
    · obtain ⟨q, h1, h2, h3⟩ := R.ow j d' h
      exact ⟨q, by unfold drop1; rw [if_neg ne]; exact h1, set_get h2 ne, h3.less fun _ z => z.drop⟩
  onl := fun j q h => by
    obtain ⟨ne, h⟩ := drop_some h
    obtain ⟨⟨d', h1⟩, h2⟩ := R.onl j q h
    exact ⟨⟨d', set_get h1 ne⟩, h2⟩
  inj := fun j k q h1 h2 => R.inj j k q (drop_some h1).2 (drop_some h2).2
  len := by simp [R.len]
  gh := fun q h => (R.gh q h).less fun _ z => z.drop
  hid := fun a h => ⟨(R.hid a h).1, (R.hid a h).2.1, (R.hid a h).2.2.1, fun j z => (R.hid a h).2.2.2 j (drop_some z).2⟩
/-- a slot's value is no longer known -/
theorem ER.setN {w : Option V} (R : ER c own env n σ H) : ER c (drop1 own i) (env.set i .no) n (σ.set i w) H where
  vi := R.vi
  ext := R.ext
  vi0 := R.vi0
  lo := R.lo
  val := fun j d' h => by
    rcases get_set h with ⟨rfl, hl, e⟩ | ⟨ne, h⟩
    · cases e
    · obtain ⟨w, h1, h2⟩ := R.val j d' h
      exact ⟨w, set_get h1 ne, h2.less fun _ z => z.drop⟩
  ow := fun j d' h => by
    rcases get_set h with ⟨rfl, hl, e⟩ | ⟨ne, h⟩
    · cases e
    · obtain ⟨q, h1, h2, h3⟩ := R.ow j d' h
      exact ⟨q, by unfold drop1; rw [if_neg ne]; exact h1, set_get h2 ne, h3.less fun _ z => z.drop⟩
  onl := fun j q h => by
    obtain ⟨ne, h⟩ := drop_some h
    obtain ⟨⟨d', h1⟩, h2⟩ := R.onl j q h
    exact ⟨⟨d', set_get h1 ne⟩, h2⟩
  inj := fun j k q h1 h2 => R.inj j k q (drop_some h1).2 (drop_some h2).2
  len := by simp [R.len]
  gh := fun q h => (R.gh q h).less fun _ z => z.drop
  hid := fun a h => ⟨(R.hid a h).1, (R.hid a h).2.1, (R.hid a h).2.2.1, fun j z => (R.hid a h).2.2.2 j (drop_some z).2⟩
theorem ER.kill1 (R : ER c own env n σ H) : ER c (drop1 own i) (env.set i .no) n σ H := by
  have h := R.setN (i := i) (w := (σ[i]?).join)
  have e : σ.set i (σ[i]?).join = σ := by
    apply List.ext_getElem?
    intro j
    by_cases hj : j = i
    · subst hj
      by_cases hl : j < σ.length
      · rw [List.getElem?_set_self hl, List.getElem?_eq_getElem hl]; rfl
      · rw [List.getElem?_eq_none (by simpa using hl), List.getElem?_eq_none (by simpa using hl)]
    · rw [List.getElem?_set_ne (Ne.symm hj)]
  rw [e] at h
  exact h
/-- a new own list or dict -/
def own1 (own : Nat → Option Addr) (i : Nat) (p : Addr) : Nat → Option Addr := fun j => if j = i then some p else own j
theorem own_some {j : Nat} {q : Addr} (h : own1 own i p j = some q) : (j = i ∧ q = p) ∨ (j ≠ i ∧ own j = some q) := by
  unfold own1 at h
  split at h
  · exact .inl ⟨by assumption, (Option.some.inj h).symm⟩
  · exact .inr ⟨by assumption, h⟩
theorem AV.own1 {a : Addr} (h : AV c n (own1 own i p) a) : AV c n own a ∨ a = p := by
  rcases h with h | h | ⟨j, h⟩ | h
  · exact .inl (.inl h)
  · exact .inl (.inr (.inl h))
  · rcases own_some h with ⟨_, e⟩ | ⟨_, h⟩
    · exact .inr e
    · exact .inl (.inr (.inr (.inl ⟨j, h⟩)))
  · exact .inl (.inr (.inr (.inr h)))
/-- an own list or dict is changed -/
theorem Ow.fix2 {K : PySem.W.Frag} {dk : DkT} {A : Addr → Prop} {o : HO} (h : Ow K dk H A p d) (ho : H p = some o) : ¬ Fix2 o := by
  cases d with
  | lst ds => obtain ⟨xs, h1, h2⟩ := h; rw [ho] at h1; cases h1; exact id
  | dct ks ds => obtain ⟨kvs, h1, h2, h3⟩ := h; rw [ho] at h1; cases h1; exact id
  | _ => exact h.elim
theorem ER.mut {o' : HO} (R : ER c own env n σ H) (hp : own i = some p) (r : Ow c.K c.dk (upd H p o') (AV c n own) p d) : ER c own (env.set i (.own d)) n σ (upd H p o') := by
  obtain ⟨⟨d0, hd0⟩, hH0, nd, hH⟩ := R.onl i p hp
  obtain ⟨p', e1, e2, e3⟩ := R.ow i d0 hd0
  rw [hp] at e1
  cases e1
  obtain ⟨o, ho, nt, nf⟩ := e3.some_
  have av : AV c n own p := .inr (.inr (.inl ⟨i, hp⟩))
  have hk : ∀ a u, H a = some u → AV c n own a ∨ (∃ xs, u = .tup xs) ∨ (∃ ob w, u = .frz ob w) ∨ (∃ C dx fs, u = .ins C dx fs) ∨ upd H p o' a = some u := fun a u q => by
    by_cases z : a = p
    · exact .inl (by rw [z]; exact av)
    · exact .inr (.inr (.inr (.inr (by rw [upd_ne z]; exact q))))
  have ht : ∀ a xs, H a = some (.tup xs) → upd H p o' a = some (.tup xs) := fun a xs q => by
    rw [upd_ne fun z => nt xs (by rw [z, ho] at q; exact Option.some.inj q)]; exact q
  have hf : ∀ a ob u, H a = some (.frz ob u) → upd H p o' a = some (.frz ob u) := fun a ob u q => by
    rw [upd_ne fun z => nf ob u (by rw [z, ho] at q; exact Option.some.inj q)]; exact q
  have md : ∀ {w : V} {b : D}, Rp c.K c.dk H (AV c n own) w b → Rp c.K c.dk (upd H p o') (AV c n own) w b := fun h => h.mono hk ht hf fun _ z => .inl z
  have mdl : ∀ {w : List V} {b : List D}, RpL c.K c.dk H (AV c n own) w b → RpL c.K c.dk (upd H p o') (AV c n own) w b := fun h => h.mono hk ht hf fun _ z => .inl z
  have hi : i < env.length := (List.getElem?_eq_some_iff.mp hd0).1
  have keep : ∀ a, H a ≠ none → upd H p o' a ≠ none := fun a q z => by
    by_cases w : a = p
    · rw [w, upd_same] at z; cases z
    · rw [upd_ne w] at z; exact q z
  refine ⟨R.vi.on (fun a h => upd_ne fun z => nd (z ▸ h)) (fun a u q f => upd_ne (fun z => (by rw [z] at q; exact e3.fix2 q f)) |>.trans q), ⟨fun a u q => ?_, R.ext.up, R.ext.nw, fun a q => keep a (R.ext.kp a q)⟩, R.vi0, R.lo, fun j d' h => ?_, fun j d' h => ?_, fun j q h => ?_, R.inj, by simp [R.len], fun q h => md (R.gh q h), fun a h => ?_⟩
  · rcases R.ext.st a u q with z | z
    · exact .inl z
    · exact .inr (by rw [upd_ne (fun w => by rw [w, hH0] at q; cases q)]; exact z)
  · rcases get_set h with ⟨rfl, hl, e⟩ | ⟨ne, h⟩
    · cases e
    · obtain ⟨w, h1, h2⟩ := R.val j d' h
      exact ⟨w, h1, md h2⟩
  · rcases get_set h with ⟨rfl, hl, e⟩ | ⟨ne, h⟩
    · cases e
      exact ⟨p, hp, e2, r⟩
    · obtain ⟨q, h1, h2, h3⟩ := R.ow j d' h
      refine ⟨q, h1, h2, ?_⟩
      have nq : q ≠ p := fun z => ne (R.inj j i q h1 (by rw [z]; exact hp))
      cases d' with
      | lst l => obtain ⟨xs, g1, g2⟩ := h3; exact ⟨xs, by rw [upd_ne nq]; exact g1, mdl g2⟩
      | dct ks l => obtain ⟨kvs, g1, g2, g3⟩ := h3; exact ⟨kvs, by rw [upd_ne nq]; exact g1, g2, mdl g3⟩
      | _ => exact h3.elim
  · obtain ⟨⟨d', h1⟩, h2, h3, h4⟩ := R.onl j q h
    refine ⟨?_, h2, h3, keep q h4⟩
    · by_cases ne : j = i
      · subst ne; exact ⟨d, by rw [List.getElem?_set_self hi]⟩
      · exact ⟨d', set_get h1 ne⟩
  · obtain ⟨h1, h2, h3, h4⟩ := R.hid a h
    exact ⟨h1, h2, keep a h3, h4⟩
end

/-! ### statements -/
def seqS (t u : DS) : DS := fun env k X n => t env { k with nx := fun e n' => u e k X n' } X n
def skipS : DS := fun env k _ n => k.nx env n
def retS (e : DE) : DS := fun env k X n => e env n k.rt (X env)
def retNS : DS := fun env k _ n => k.rt .non n
def asgS (i : Nat) (e : DE) : DS := fun env k X n => e env n (fun d n' => k.nx (env.set i (.val d)) n') (X env)
def asgO (i : Nat) (e : DE) : DS := fun env k X n => e env n (fun d n' => i < env.length ∧ k.nx (env.set i (.own d)) n') (X env)
def iteS (t : DE) (a b : DS) : DS := fun env k X n => t env n (fun d n' => (d = .bl true → a env k X n') ∧ (d = .bl false → b env k X n') ∧ (d = .bl true ∨ d = .bl false)) (X env)
def contS : DS := fun env k _ n => k.ct env n
def brkS : DS := fun env k _ n => k.bk env n
def dropS (e : DE) : DS := fun env k X n => e env n (fun _ n' => k.nx env n') (X env)
def killE : List Nat → Env' → Env'
  | [], env => env
  | i :: is, env => (killE is env).set i .no
def killS (is : List Nat) : DS := fun env k _ n => k.nx (killE is env) n
def frzE (i : Nat) (env : Env') : Env' := match env[i]? with
  | some (.own d) => env.set i (.val d)
  | _ => env
def frzS (i : Nat) : DS := fun env k _ n => k.nx (frzE i env) n
def ownL (env : Env') (i : Nat) : Option (List D) := match env[i]? with
  | some (.own (.lst l)) => some l
  | _ => none
def ownK (env : Env') (i : Nat) : Option (List Key × List D) := match env[i]? with
  | some (.own (.dct ks ds)) => some (ks, ds)
  | _ => none
theorem ownL_eq {env : Env'} {i : Nat} {l : List D} (h : ownL env i = some l) : env[i]? = some (.own (.lst l)) := by
  unfold ownL at h
  split at h
  · cases h; assumption
  · cases h
def appS (i : Nat) (e : DE) : DS := fun env k X n => match ownL env i with
  | some l => e env n (fun d n' => l.length < sizeLine ∧ k.nx (env.set i (.own (.lst (l ++ [d])))) n') (X env)
  | none => False
def rowD : D → Option (List D)
  | .lst l => some l
  | .tup l => some l
  | _ => none
def extS (i : Nat) (e : DE) : DS := fun env k X n => match ownL env i with
  | some l => e env n (fun d n' => match rowD d with | some r => l.length + r.length ≤ sizeLine ∧ k.nx (env.set i (.own (.lst (l ++ r)))) n' | none => False) (X env)
  | none => False
def putL (ks : List Key) (ds : List D) (k : Key) (v : D) : List Key × List D :=
  if hasK ks k = true then (ks, List.zipWith (fun x d => if x = k then v else d) ks ds) else (ks ++ [k], ds ++ [v])
def putS (i : Nat) (kk v : DE) : DS := fun env k X n => match ownK env i with
  | some l => v env n (fun dv n1 => kk env n1 (fun dk n2 => match keyD dk with
    | some x => l.1.length < sizeLine ∧ k.nx (env.set i (.own (.dct (putL l.1 l.2 x dv).1 (putL l.1 l.2 x dv).2))) n2
    | none => False) (X env)) (X env)
  | none => False
section
variable {X : Cx} {c : Cn} {st : Stmt} {rest : List Stmt} {t u : DS} {te tk tv : DE} {e : Expr} {pos pos' : Pos} {i : Nat} {x : Str}
theorem s_nil : PSs X [] (tS c skipS) := PSs.imp pss_nil fun D σ H q => by
  obtain ⟨own, env, n, R, k, l, q⟩ := q
  exact l.nx own env n σ H q R
theorem s_cons (h1 : PS X st (tS c t)) (h2 : PSs X rest (tS c u)) : PSs X (st :: rest) (tS c (seqS t u)) := PSs.imp (pss_cons h1 h2) fun D σ H q => by
  obtain ⟨own, env, n, R, k, l, q⟩ := q
  exact ⟨own, env, n, R, { k with nx := fun e n' => u e k c.Xq n' }, ⟨fun own env n σ H q R => ⟨own, env, n, R, k, l, q⟩, l.bk, l.ct, l.rt⟩, q⟩
theorem OA.av {own : Nat → Option Addr} {a : Addr} (h : OA c n a) : AV c n own a := h.elim .inl fun h => .inr (.inl h)
theorem s_ret (he : PE X e (tX c .s te)) : PS X (.Return (some e) pos) (tS c (retS te)) := PS.imp (ps_ret he) fun D σ H q => by
  obtain ⟨own, env, n, R, k, l, q⟩ := q
  exact ⟨own, env, n, R, _, q, fun d n' v H' q e vi r => l.rt d n' v H' q (R.ext.trans e) vi (Rp.less (fun _ z => z.av) r)⟩
theorem r_asg {D : Ends} {σ : St} {H : Hp} (q : tS c (asgS i te) D σ H) : tAsg (tX c .s te) (gName i) D σ H := by
  obtain ⟨own, env, n, R, k, l, q⟩ := q
  exact ⟨own, env, n, R, _, q, fun d n' v H' q e vi r => l.nx _ _ n' _ H' q ((R.go e vi).setV r)⟩
theorem s_if {cc : Expr} {a b : List Stmt} (hc : PT X cc (tT c te)) (ha : PSs X a (tS c t)) (hb : PSs X b (tS c u)) : PS X (.If cc a b pos) (tS c (iteS te t u)) := PS.imp (ps_if hc ha hb) fun D σ H q => by
  obtain ⟨own, env, n, R, k, l, q⟩ := q
  refine ⟨own, env, n, R, _, q, fun d n' H' q e vi => ?_⟩
  obtain ⟨q1, q2, q3⟩ := q
  rcases q3 with rfl | rfl
  · exact ⟨true, rfl, own, env, n', R.go e vi, k, l, q1 rfl⟩
  · exact ⟨false, rfl, own, env, n', R.go e vi, k, l, q2 rfl⟩
theorem ER.killE {is : List Nat} : ∀ {own : Nat → Option Addr} {env : Env'} {n : Gn} {σ : St} {H : Hp}, ER c own env n σ H → ∃ own', ER c own' (DL.killE is env) n σ H := by
  induction is with
  | nil => intro own env n σ H R; exact ⟨own, R⟩
  | cons i is ih =>
    intro own env n σ H R
    obtain ⟨own', R'⟩ := ih R
    exact ⟨_, R'.kill1⟩
/-! own lists -/
theorem ER.put (R : ER c own env n σ H) {l : List D} (h : ownL env i = some l) : ∃ p xs, own i = some p ∧ σ[i]? = some (some (V.ref p)) ∧ H p = some (.lst xs) ∧ xs.length = l.length ∧
    ∀ ws ds, RpL c.K c.dk H (AV c n own) ws ds → ER c own (env.set i (.own (.lst (l ++ ds)))) n σ (upd H p (.lst (xs ++ ws))) := by
  obtain ⟨p, h1, h2, xs, h3, h4⟩ := R.ow i _ (ownL_eq h)
  refine ⟨p, xs, h1, h2, h3, h4.length, fun ws ds r => R.mut h1 ⟨xs ++ ws, upd_same, ?_⟩⟩
  have av : AV c n own p := .inr (.inr (.inl ⟨i, h1⟩))
  refine (h4.append r).mono (fun a u q => ?_) (fun a xs q => ?_) (fun a ob u q => ?_) fun _ z => .inl z
  · by_cases z : a = p
    · exact .inl (by rw [z]; exact av)
    · exact .inr (.inr (.inr (.inr (by rw [upd_ne z]; exact q))))
  · rw [upd_ne fun z => by rw [z, h3] at q; cases q]; exact q
  · rw [upd_ne fun z => by rw [z, h3] at q; cases q]; exact q
end
end DL

/-! part nine: loops -/
namespace DL
open PySem PySem.Spec L2

/-! ### targets -/
inductive Tg where
  | nm (i : Nat)
  | tp (is : List Nat)
def setAll : List Nat → List D → Env' → Env'
  | i :: is, d :: ds, env => setAll is ds (env.set i (.val d))
  | _, _, env => env
def stT : Tg → D → Env' → Option Env'
  | .nm i, d, env => some (env.set i (.val d))
  | .tp is, .tup ds, env => if ds.length = is.length then some (setAll is ds env) else none
  | _, _, _ => none
def gNms : List Nat → TGs
  | [] => gNil
  | i :: is => gCons (gName i) (gNms is)
def gT (K : PySem.W.Frag) : Tg → TG
  | .nm i => gName i
  | .tp is => gTup K is.length (gNms is)
def slotsT : Tg → List Nat
  | .nm i => [i]
  | .tp is => is
theorem wipe_set {σ : St} {i : Nat} {x : Option V} : ∀ {vs : List Nat}, i ∉ vs → wipe (σ.set i x) vs = (wipe σ vs).set i x
  | [], _ => rfl
  | v :: vs, h => by
    simp only [List.mem_cons, not_or] at h
    show (wipe (σ.set i x) vs).set v none = ((wipe σ vs).set v none).set i x
    rw [wipe_set h.2, List.set_comm _ _ h.1]
theorem wipe_in {σ : St} {i : Nat} {x : Option V} : ∀ {vs : List Nat}, i ∈ vs → wipe (σ.set i x) vs = wipe σ vs
  | [], h => by cases h
  | v :: vs, h => by
    show (wipe (σ.set i x) vs).set v none = (wipe σ vs).set v none
    by_cases hi : i ∈ vs
    · rw [wipe_in hi]
    · rw [wipe_set hi]
      rcases List.mem_cons.mp h with e | h
      · rw [e, List.set_set]
      · exact absurd h hi
section
variable {c : Cn} {own : Nat → Option Addr} {env env1 : Env'} {n : Gn} {σ : St} {H : Hp} {x : V} {d : D}
theorem gNms_ok : ∀ {is : List Nat} {xs : List V} {ds : List D} {own : Nat → Option Addr} {env : Env'} {σ : St} {Q : St → Hp → Prop}, ER c own env n σ H → RpL c.K c.dk H (AV c n own) xs ds → ds.length = is.length →
    (∀ own1 σ1, ER c own1 (setAll is ds env) n σ1 H → (∀ vs : List Nat, (∀ i ∈ is, i ∈ vs) → wipe σ1 vs = wipe σ vs) → (∀ i p, own i = some p → i ∉ is → own1 i = some p) → Q σ1 H) → gNms is xs σ H Q
  | [], _, _, own, env, σ, Q, R, .nil, _, h => ⟨rfl, h own σ R (fun _ _ => rfl) fun _ _ z _ => z⟩
  | [], _, _, _, _, _, _, _, .cons _ _, e, _ => by cases e
  | i :: is, _, _, _, _, _, _, _, .nil, e, _ => by cases e
  | i :: is, _, _, own, env, σ, Q, R, .cons (v := v) (vs := vs) (d := d) (ds := ds) r t, e, h => by
    refine ⟨v, vs, rfl, ?_⟩
    have R1 := R.setV (i := i) r
    refine gNms_ok R1 (t.less fun _ z => z.drop) (by simpa using e) fun own1 σ1 R2 hw ho => h own1 σ1 R2 (fun ws hs => ?_) fun j p hj nj => ?_
    · rw [hw ws fun j hj => hs j (List.mem_cons_of_mem _ hj), wipe_in (hs i List.mem_cons_self)]
    · simp only [List.mem_cons, not_or] at nj
      exact ho j p (by unfold drop1; rw [if_neg nj.1]; exact hj) nj.2
theorem gT_ok {tg : Tg} {Q : St → Hp → Prop} (R : ER c own env n σ H) (r : Rp c.K c.dk H (AV c n own) x d) (hs : stT tg d env = some env1)
    (h : ∀ own1 σ1, ER c own1 env1 n σ1 H → (∀ vs : List Nat, (∀ i ∈ slotsT tg, i ∈ vs) → wipe σ1 vs = wipe σ vs) → (∀ i p, own i = some p → i ∉ slotsT tg → own1 i = some p) → Q σ1 H) : gT c.K tg x σ H Q := by
  cases tg with
  | nm i =>
    cases hs
    refine h _ _ (R.setV (i := i) r) (fun vs hv => wipe_in (hv i List.mem_cons_self)) fun j p hj nj => ?_
    unfold drop1
    rw [if_neg fun z => nj (by rw [z]; exact List.mem_cons_self)]
    exact hj
  | tp is =>
    cases d with
    | tup ds =>
      simp only [stT] at hs
      split at hs
      · rename_i hl
        cases hs
        cases r with
        | tup hq t =>
          exact ⟨_, _, rfl, hq, by rw [t.length]; exact hl, gNms_ok R t hl h⟩
      · cases hs
    | _ => simp [stT] at hs
end

/-! ### what is walked -/
def Walks (c : Cn) (J : It) (ds : List D) (gh : List (V × D)) : Prop := ∀ (A : Addr → Prop) (i : Nat) (H : Hp), (∀ p ∈ gh, Rp c.K c.dk H A p.1 p.2) →
  (i < ds.length → J.go i H) ∧ (ds.length ≤ i → J.stop i H) ∧ ∀ x H', J.yld i H x H' → (H' = H ∨ ∃ T o, H T = none ∧ H' = upd H T o) ∧ (i < ds.length → ∃ d, ds[i]? = some d ∧ Rp c.K c.dk H' A x d)
abbrev DI := Env' → Mo (List D)
def tI (c : Cn) (t : DI) : TI := fun σ H R => ∃ own env n, ER c own env n σ H ∧ ∃ Qd, t env n Qd (c.Xq env) ∧
  ∀ ds n' J H1 gh, Qd ds n' → Ext c.dk n n' H H1 → VI c.K c.dk n' H1 → (∀ p ∈ gh, Rp c.K c.dk H1 (AV c n' own) p.1 p.2) → Walks c J ds gh → R J H1
theorem PI.imp {X : Cx} {tg e : Expr} {t u : TI} (h : PI X tg e t) (hi : ∀ σ H R, u σ H R → t σ H R) : PI X tg e u := ⟨fun pins s σ H R I q => h.run pins s σ H R I (hi σ H R q)⟩
/-- lists, tuples, texts -/
def iRow (K : PySem.W.Frag) (tl : TE) : TI := fun σ H R => tl σ H fun x H1 => (∃ a xs, x = .ref a ∧ SqL K H1 a xs ∧ R (Itl K a) H1) ∨ (∃ a xs, x = .ref a ∧ SqT K H1 a xs ∧ R (Itt K a) H1) ∨ ∃ z, x = .str z ∧ R (Its z) H1
def strDs (z : Str) : List D := z.cps.toList.map fun c => .str ⟨#[c]⟩
def itemsD : D → Mo (List D)
  | .lst l => ret l
  | .tup l => ret l
  | .str z => ret (strDs z)
  | _ => stop
def rowI (t : DE) : DI := fun env => bnd (t env) itemsD
section
variable {X : Cx} {c : Cn} {tg e e2 : Expr} {te tf : DE} {p pos tpos : Pos}
/-! ranges -/
def rangeD (lo : Int) (n : Nat) : List D := (List.range n).map fun (i : Nat) => .int (lo + i)
def r1D : D → Mo (List D)
  | .int j => need (j < 4611686018427387904 ∧ -4611686018427387904 ≤ j) (ret (rangeD 0 j.toNat))
  | _ => stop
def r2D : D → D → Mo (List D)
  | .int i, .int j => need ((j < 4611686018427387904 ∧ -4611686018427387904 ≤ j) ∧ (i < 4611686018427387904 ∧ -4611686018427387904 ≤ i)) (ret (rangeD i (j - i).toNat))
  | _, _ => stop
def rng1 (t : DE) : DI := fun env => bnd (t env) r1D
def rng2 (t u : DE) : DI := fun env => bnd (t env) fun a => bnd (u env) fun b => r2D a b
theorem walks_rng {lo : Int} {n : Nat} : Walks c (Itr lo n) (rangeD lo n) [] := by
  intro A i H h
  have hs : (rangeD lo n).length = n := by simp [rangeD]
  refine ⟨fun hi => by show i < n; omega, fun hi => by show n ≤ i; omega, fun x H' y => ?_⟩
  obtain ⟨e, e2⟩ := y
  subst e e2
  refine ⟨.inl rfl, fun hi => ⟨_, ?_, .int _⟩⟩
  have hi' : i < n := by omega
  simp [rangeD, hi']
theorem i_rng1 (hg : Gl X "range") (hm : X.mg "range" = none) (he : PE X e (tX c .w te)) (hs : starEach [e] X.env = [(false, eval e X.env)]) : PI X tg (.Call (.Name "range" p) [e] [] pos) (tI c (rng1 te)) := by
  refine PI.imp (pi_range1 hg hm (pa_cons he pa_nil hs) hs) fun σ H R q => ?_
  obtain ⟨own, env, n, R0, Qd, g1, g2⟩ := q
  refine ⟨own, env, n, R0, _, g1, fun d n' v H' q e vi r => ?_⟩
  cases d with
  | int j =>
    obtain ⟨⟨h1, h2⟩, q⟩ := q
    exact ⟨j, by rw [Rp.int' r], by omega, by omega, g2 _ n' _ H' [] q e vi (fun p hp => by cases hp) walks_rng⟩
  | _ => exact q.elim
/-! pairs -/
/-- not tuples with tuples -/
def zipOk (l m : List D) : Bool := l.all (fun d => !isTupD d) || m.all fun d => !isTupD d
def zipD (a b : D) : Mo (List D) := match a, b with
  | .lst l, .lst m => need (zipOk l m = true) (ret (List.zipWith (fun x y => .tup [x, y]) l m))
  | .tup l, .tup m => need (zipOk l m = true) (ret (List.zipWith (fun x y => .tup [x, y]) l m))
  | _, _ => stop
def zipI (t u : DE) : DI := fun env => bnd (t env) fun a => bnd (u env) fun b => zipD a b
end

/-! ### for -/
/-- with more that is known to stand -/
def Cn.wg (c : Cn) (gh : List (V × D)) (hid : List Addr) : Cn := { c with gh := gh ++ c.gh, hid := hid ++ c.hid }
theorem ER.ofG {c : Cn} {gh : List (V × D)} {own : Nat → Option Addr} {env : Env'} {n : Gn} {σ : St} {H : Hp} (R : ER (c.wg gh []) own env n σ H) : ER c own env n σ H :=
  ⟨R.vi, R.ext, R.vi0, R.lo, R.val, R.ow, R.onl, R.inj, R.len, fun p h => R.gh p (List.mem_append_right _ h), R.hid⟩
theorem ER.toG {c : Cn} {gh : List (V × D)} {own : Nat → Option Addr} {env : Env'} {n : Gn} {σ : St} {H : Hp} (R : ER c own env n σ H) (h : ∀ p ∈ gh, Rp c.K c.dk H (AV c n own) p.1 p.2) : ER (c.wg gh []) own env n σ H :=
  ⟨R.vi, R.ext, R.vi0, R.lo, R.val, R.ow, R.onl, R.inj, R.len, fun p hp => (List.mem_append.mp hp).elim (h p) (R.gh p), R.hid⟩
def forL (tg : Tg) (ks : List Nat) (b : DS) : List D → DS
  | [] => fun env k _ n => k.nx env n
  | d :: ds => fun env k X n => match stT tg d env with
    | some env1 => b env1 { k with nx := fun e n' => forL tg ks b ds (killE ks e) k X n', ct := fun e n' => forL tg ks b ds (killE ks e) k X n', bk := fun e n' => k.nx (killE ks e) n' } X n
    | none => False
def forS (tg : Tg) (ks : List Nat) (it : DI) (b : DS) : DS := fun env k X n => it env n (fun ds n' => forL tg ks b ds (killE ks env) k X n') (X env)
theorem ext_step {dk : DkT} {n : Gn} {H H' : Hp} (h : H' = H ∨ ∃ T o, H T = none ∧ H' = upd H T o) : Ext dk n n H H' := by
  rcases h with rfl | ⟨T, o, h, rfl⟩
  · exact Ext.refl
  · exact Ext.new h
theorem vi_step {K : PySem.W.Frag} {dk : DkT} {n : Gn} {H H' : Hp} (vi : VI K dk n H) (h : H' = H ∨ ∃ T o, H T = none ∧ H' = upd H T o) : VI K dk n H' := by
  rcases h with rfl | ⟨T, o, h, rfl⟩
  · exact vi
  · exact vi.new h
theorem s_for {X : Cx} {c : Cn} {tge iter : Expr} {body : List Stmt} {pos : Pos} {tg : Tg} {ks : List Nat} {it : DI} {b : DS} (hK : X.K = c.K) (hp : PassesOwn (model X.prog X.w) X.A X.env X.xe) (hc : X.calm = true) (hi : PI X tge iter (tI c it)) (hg : PG X tge (gT X.K tg))
    (hb : ∀ gh, PSs X body (tS (c.wg gh []) b)) (hs : ∀ x, foldedSetIterable iter X.env x = pure x) : PS X (.For tge iter body [] pos) (tS c (forS tg ks it b)) := by
  have hb' : PSs X body (fun D σ H => ∃ gh, tS (c.wg gh []) b D σ H) := ⟨fun pins s σ H D I h => by
    obtain ⟨gh, h⟩ := h
    exact (hb gh).run pins s σ H D I h⟩
  refine PS.imp (ps_for hp hc hi hg hb' hs) fun D σ H q => ?_
  obtain ⟨own, env, n, R, k, l, q⟩ := q
  refine ⟨own, env, n, R, _, q, fun ds n1 J H1 gh q e vi hgh hw => ?_⟩
  refine ⟨fun i m σ2 H2 => m = ds.length - i ∧ i ≤ ds.length ∧ ∃ own2 env2 n2, ER (c.wg gh []) own2 env2 n2 σ2 H2 ∧ forL tg ks b (ds.drop i) env2 k c.Xq n2, ⟨ds.length, ?_⟩, fun i m σ2 H2 w => ?_⟩
  · obtain ⟨own', R'⟩ := (R.go e vi).killE (is := ks)
    obtain ⟨own'', R''⟩ := ((R.go e vi).toG hgh).killE (is := ks)
    exact ⟨by omega, Nat.zero_le _, own'', _, n1, R'', by simpa using q⟩
  · obtain ⟨hm, hle, own2, env2, n2, R2, q2⟩ := w
    have hgh2 : ∀ p ∈ gh, Rp c.K c.dk H2 (AV c n2 own2) p.1 p.2 := fun p hp => R2.gh p (List.mem_append_left _ hp)
    obtain ⟨w1, w2, w3⟩ := hw (AV c n2 own2) i H2 hgh2
    by_cases hi : i < ds.length
    · refine .inr ⟨w1 hi, fun σ' H' => ∃ own2 env2 n2, ER (c.wg gh []) own2 env2 n2 σ' H' ∧ forL tg ks b (ds.drop (i + 1)) (killE ks env2) k c.Xq n2, fun σ' H' w' => ?_, fun x H' y => ?_⟩
      · obtain ⟨own3, env3, n3, R3, q3⟩ := w'
        obtain ⟨own4, R4⟩ := R3.killE (is := ks)
        exact ⟨ds.length - (i + 1), by omega, rfl, hi, own4, _, n3, R4, q3⟩
      · obtain ⟨st, yd⟩ := w3 x H' y
        obtain ⟨d, hd, rd⟩ := yd hi
        have R3 : ER (c.wg gh []) own2 env2 n2 σ2 H' := R2.go (ext_step st) (vi_step R2.vi st)
        rw [List.drop_eq_getElem_cons hi] at q2
        have ed : ds[i] = d := by
          rw [List.getElem?_eq_getElem hi] at hd
          exact Option.some.inj hd
        rw [ed] at q2
        unfold forL at q2
        split at q2
        · rename_i env1 he
          have gK : gT X.K tg = gT (c.wg gh []).K tg := by rw [hK]; rfl
          rw [gK]
          refine gT_ok (c := c.wg gh []) R3 rd he fun own4 σ4 R4 _ _ => ⟨gh, own4, env1, n2, R4, _, ?_, q2⟩
          refine ⟨fun own5 env5 n5 σ5 H5 q5 R5 => ⟨own5, env5, n5, R5, q5⟩, fun own5 env5 n5 σ5 H5 q5 R5 => ?_, fun own5 env5 n5 σ5 H5 q5 R5 => ⟨own5, env5, n5, R5, q5⟩, l.rt⟩
          obtain ⟨own6, R6⟩ := R5.killE (is := ks)
          exact l.nx own6 _ n5 σ5 H5 q5 R6.ofG
        · exact q2.elim
    · have ei : i = ds.length := by omega
      refine .inl ⟨w2 (by omega), ?_⟩
      rw [ei, List.drop_length] at q2
      exact l.nx own2 env2 n2 σ2 H2 q2 R2.ofG
/-! ### while -/
def whL (t : DE) (ks : List Nat) (b : DS) : Nat → DS
  | 0 => fun _ _ _ _ => False
  | f + 1 => fun env k X n => t env n (fun d n' => (d = .bl true → b env { k with nx := fun e m => whL t ks b f (killE ks e) k X m, ct := fun e m => whL t ks b f (killE ks e) k X m, bk := k.nx } X n') ∧ (d = .bl false → k.nx env n') ∧ (d = .bl true ∨ d = .bl false)) (X env)
def whS (t : DE) (ks : List Nat) (b : DS) : DS := fun env k X n => ∃ f, whL t ks b f (killE ks env) k X n
end DL

/-! part ten: comprehensions -/
namespace DL
open PySem PySem.Spec L2

def noX {α : Type} (m : Mo α) : Mo α := fun n Q _ => m n Q fun _ _ => False
def iteL {α : Type} (d : D) (m1 m2 : Mo α) : Mo α := match d with
  | .bl true => m1
  | .bl false => m2
  | _ => stop
theorem iteL_cases {α : Type} {d : D} {m1 m2 : Mo α} {n : Gn} {Q : α → Gn → Prop} {Xq : XD → Gn → Prop} (h : iteL d m1 m2 n Q Xq) : (d = .bl true ∧ m1 n Q Xq) ∨ (d = .bl false ∧ m2 n Q Xq) := by
  unfold iteL at h
  split at h
  · exact .inl ⟨rfl, h⟩
  · exact .inr ⟨rfl, h⟩
  · exact h.elim
def lcL (tg : Tg) (tt te : DE) (env : Env') : List D → List D → Mo (List D)
  | [], acc => ret acc
  | d :: ds, acc => match stT tg d env with
    | some env1 => bnd (tt env1) fun b => iteL b (bnd (te env1) fun y => need (acc.length < sizeLine) (lcL tg tt te env ds (acc ++ [y]))) (lcL tg tt te env ds acc)
    | none => stop
def isOwn : Option EV → Bool
  | some (.own _) => true
  | _ => false
def noOwn (vs : List Nat) (env : Env') : Bool := vs.all fun i => !isOwn env[i]?
def lcT (tg : Tg) (it : DI) (tt te : DE) (vs : List Nat) : DE := fun env => bnd (it env) fun ds => need (noOwn vs env = true) (bnd (noX (lcL tg tt te (killE vs env) ds [])) fun l => ret (.lst l))
theorem killE_own : ∀ {vs : List Nat} {env : Env'} {i : Nat} {d : D}, (killE vs env)[i]? = some (.own d) → i ∉ vs ∧ env[i]? = some (.own d)
  | [], _, _, _, h => ⟨by simp, h⟩
  | v :: vs, env, i, d, h => by
    rcases get_set h with ⟨e, _, z⟩ | ⟨ne, h⟩
    · cases z
    · obtain ⟨h1, h2⟩ := killE_own h
      exact ⟨by simp only [List.mem_cons, not_or]; exact ⟨ne, h1⟩, h2⟩
theorem own_killE : ∀ {vs : List Nat} {env : Env'} {i : Nat} {d : D}, i ∉ vs → env[i]? = some (.own d) → (killE vs env)[i]? = some (.own d)
  | [], _, _, _, _, h => h
  | v :: vs, env, i, d, hi, h => by
    simp only [List.mem_cons, not_or] at hi
    exact set_get (own_killE hi.2 h) hi.1
def yesT : DE := fun _ => ret (.bl true)
/-- within a comprehension's block -/
def Cn.blk (c : Cn) (gh : List (V × D)) (L : Addr) : Cn := { c with gh := gh ++ c.gh, hid := L :: c.hid, W := fun _ _ _ _ => False, Xq := fun _ _ _ => False }
section
variable {c : Cn} {own : Nat → Option Addr} {env : Env'} {n : Gn} {σ : St} {H : Hp} {vs : List Nat}
theorem wipe_wipe : ∀ {vs : List Nat}, wipe (wipe σ vs) vs = wipe σ vs
  | [] => rfl
  | v :: vs => by
    show (wipe ((wipe σ vs).set v none) vs).set v none = (wipe σ vs).set v none
    by_cases h : v ∈ vs
    · rw [wipe_in h, wipe_wipe]
    · rw [wipe_set h, wipe_wipe, List.set_set]
theorem ER.wipe : ∀ {vs : List Nat}, ER c own env n σ H → ∃ own', ER c own' (DL.killE vs env) n (L2.wipe σ vs) H ∧ ∀ i p, own' i = some p → own i = some p
  | [], R => ⟨own, R, fun _ _ h => h⟩
  | v :: vs, R => by
    obtain ⟨own', R', h⟩ := ER.wipe (vs := vs) R
    exact ⟨_, R'.setN, fun i p q => h i p (drop_some q).2⟩
/-- the new list is begun -/
theorem ER.toBlk {gh : List (V × D)} {L : Addr} (R : ER c own env n σ H) (hL : H L = none) (hg : ∀ p ∈ gh, Rp c.K c.dk H (AV c n own) p.1 p.2) : ER (c.blk gh L) own env n σ (upd H L (.lst [])) := by
  have nd : ¬ IsDk c.dk n L := fun e => R.vi.ne e hL
  have av : ∀ a, AV (c.blk gh L) n own a → AV c n own a ∨ a = L := by
    rintro a (h | h | h | h)
    · exact .inl (.inl h)
    · exact .inl (.inr (.inl h))
    · exact .inl (.inr (.inr (.inl h)))
    · rcases List.mem_cons.mp h with h | h
      · exact .inr h
      · exact .inl (.inr (.inr (.inr h)))
  have md : ∀ {w : V} {b : D}, Rp c.K c.dk H (AV c n own) w b → Rp c.K c.dk (upd H L (.lst [])) (AV (c.blk gh L) n own) w b := fun h =>
    ((h.more hL).ext R.vi (fun _ z => .inl (AV.deck z)) (Ext.new hL) (fun _ z => .inl z)).less av
  have nH0 : c.H0 L = none := Classical.byContradiction fun q => R.ext.kp L q hL
  have kp : ∀ a, H a ≠ none → (upd H L (.lst [])) a ≠ none := fun a h z => by
    by_cases e : a = L
    · rw [e, upd_same] at z; cases z
    · rw [upd_ne e] at z; exact h z
  refine ⟨R.vi.new hL, R.ext.trans (Ext.new hL), R.vi0, R.lo, fun i d h => ?_, fun i d h => ?_, fun i p h => ?_, R.inj, R.len, fun p h => ?_, fun a h => ?_⟩
  · obtain ⟨v, h1, h2⟩ := R.val i d h
    exact ⟨v, h1, md h2⟩
  · obtain ⟨p, h1, h2, h3⟩ := R.ow i d h
    refine ⟨p, h1, h2, ?_⟩
    exact h3.ext R.vi (fun _ z => AV.deck (c := c) z) (Ext.new hL) (fun a (z : AV (c.blk gh L) n own a) => (av a z).imp id fun z => by rw [z]; exact hL) (R.onl i p h1).2.2.1
  · obtain ⟨h1, h2, h3, h4⟩ := R.onl i p h
    exact ⟨h1, h2, h3, kp p h4⟩
  · rcases List.mem_append.mp h with h | h
    · exact md (hg p h)
    · exact md (R.gh p h)
  · rcases List.mem_cons.mp h with h | h
    · subst h
      exact ⟨nH0, nd, by rw [upd_same]; simp, fun i z => (R.onl i _ z).2.2.2 hL⟩
    · obtain ⟨h1, h2, h3, h4⟩ := R.hid a h
      exact ⟨h1, h2, kp a h3, h4⟩
/-- it grows -/
theorem ER.hidMut {L : Addr} {xs : List V} {o' : HO} (R : ER c own env n σ H) (hm : L ∈ c.hid) (hL : H L = some (.lst xs)) : ER c own env n σ (upd H L o') ∧ ∀ {w : List V} {b : List D}, RpL c.K c.dk H (AV c n own) w b → RpL c.K c.dk (upd H L o') (AV c n own) w b := by
  have av : AV c n own L := .inr (.inr (.inr hm))
  obtain ⟨hH0, nd, _, nown⟩ := R.hid L hm
  have mdl : ∀ {w : List V} {b : List D}, RpL c.K c.dk H (AV c n own) w b → RpL c.K c.dk (upd H L o') (AV c n own) w b := fun h => by
    refine h.mono (fun a u q => ?_) (fun a xs q => ?_) (fun a ob u q => ?_) fun _ z => .inl z
    · by_cases z : a = L
      · exact .inl (by rw [z]; exact av)
      · exact .inr (.inr (.inr (.inr (by rw [upd_ne z]; exact q))))
    · rw [upd_ne fun z => by rw [z, hL] at q; cases q]; exact q
    · rw [upd_ne fun z => by rw [z, hL] at q; cases q]; exact q
  have md : ∀ {w : V} {b : D}, Rp c.K c.dk H (AV c n own) w b → Rp c.K c.dk (upd H L o') (AV c n own) w b := fun h => by
    cases mdl (.cons h .nil) with
    | cons r _ => exact r
  have kp : ∀ a, H a ≠ none → (upd H L o') a ≠ none := fun a h z => by
    by_cases e : a = L
    · rw [e, upd_same] at z; cases z
    · rw [upd_ne e] at z; exact h z
  refine ⟨⟨R.vi.on (fun a h => upd_ne fun z => nd (z ▸ h)) (fun a u q f => (upd_ne fun z => by rw [z, hL] at q; cases q; exact f).trans q), ⟨fun a u q => ?_, R.ext.up, R.ext.nw, fun a q => kp a (R.ext.kp a q)⟩, R.vi0, R.lo, fun i d h => ?_, fun i d h => ?_, fun i p h => ?_, R.inj, R.len, fun p h => md (R.gh p h), fun a h => ?_⟩, mdl⟩
  · rcases R.ext.st a u q with z | z
    · exact .inl z
    · exact .inr (by rw [upd_ne (fun w => by rw [w, hH0] at q; cases q)]; exact z)
  · obtain ⟨v, h1, h2⟩ := R.val i d h
    exact ⟨v, h1, md h2⟩
  · obtain ⟨p, h1, h2, h3⟩ := R.ow i d h
    refine ⟨p, h1, h2, ?_⟩
    have np : p ≠ L := fun z => nown i (by rw [← z]; exact h1)
    cases d with
    | lst l => obtain ⟨xs, g1, g2⟩ := h3; exact ⟨xs, by rw [upd_ne np]; exact g1, mdl g2⟩
    | dct ks l => obtain ⟨kvs, g1, g2, g3⟩ := h3; exact ⟨kvs, by rw [upd_ne np]; exact g1, g2, mdl g3⟩
    | _ => exact h3.elim
  · obtain ⟨h1, h2, h3, h4⟩ := R.onl i p h
    exact ⟨h1, h2, h3, kp p h4⟩
  · obtain ⟨h1, h2, h3, h4⟩ := R.hid a h
    exact ⟨h1, h2, kp a h3, h4⟩
end

/-- the parts of a block, for whatever stands ahead of it -/
def anyE (c : Cn) (t : DE) : TE := fun σ H Q => ∃ gh L, tX (c.blk gh L) .s t σ H Q
def anyT (c : Cn) (t : DE) : TT := fun σ H Q => ∃ gh L, tT (c.blk gh L) t σ H Q
theorem pe_any {X : Cx} {c : Cn} {e : Expr} {t : DE} (h : ∀ gh L, PE X e (tX (c.blk gh L) .s t)) : PE X e (anyE c t) := ⟨fun pins s σ H Q I q => by
  obtain ⟨gh, L, q⟩ := q
  exact (h gh L).run pins s σ H Q I q⟩
theorem pt_any {X : Cx} {c : Cn} {es : List Expr} {t : DE} (h : ∀ gh L, PTs X es (tT (c.blk gh L) t)) : PTs X es (anyT c t) := ⟨fun pins s σ H Q I q => by
  obtain ⟨gh, L, q⟩ := q
  exact (h gh L).run pins s σ H Q I q⟩
theorem pts_yes {X : Cx} {c : Cn} : PTs X [] (tT c yesT) := ⟨fun pins s σ H Q I q => by
  obtain ⟨own, env, n, R, Qd, h1, h2⟩ := q
  obtain ⟨b, e, q⟩ := h2 _ n H h1 Ext.refl R.vi
  cases e
  exact pts_nil.run pins s σ H Q I q⟩
theorem r_lc {c : Cn} {tg : Tg} {it : DI} {tt te : DE} {vs : List Nat} (hsl : ∀ i ∈ slotsT tg, i ∈ vs) {σ : St} {H : Hp} {Q : VK} (q : tX c .f (lcT tg it tt te vs) σ H Q) : tLc (tI c it) (gT c.K tg) (anyT c tt) (anyE c te) vs σ H Q := by
  obtain ⟨own, env, n, R, Qd, q, g⟩ := q
  refine ⟨own, env, n, R, _, q, fun ds n1 J H1 gh q e vi hgh hw L hL => ?_⟩
  have R1 := R.go e vi
  obtain ⟨hno, q⟩ := q
  have q : lcL tg tt te (killE vs env) ds [] n1 (fun l n2 => Qd (.lst l) n2) (fun _ _ => False) := q
  obtain ⟨own', Rw, how⟩ := R1.wipe (vs := vs)
  have sub : ∀ a, AV c n1 own' a → AV c n1 own a := by
    rintro a (h | h | ⟨i, h⟩ | h)
    · exact .inl h
    · exact .inr (.inl h)
    · exact .inr (.inr (.inl ⟨i, how i a h⟩))
    · exact .inr (.inr (.inr h))
  have R2 := Rw.toBlk hL (gh := gh) fun p hp => (hgh p hp).less sub
  refine ⟨fun i m H2 => m = ds.length - i ∧ i ≤ ds.length ∧ ∃ own2 n2 acc accD, ER (c.blk gh L) own2 (killE vs env) n2 (wipe σ vs) H2 ∧ (∀ i p, own2 i = some p → own' i = some p) ∧ Ext c.dk n1 n2 H1 H2 ∧ H2 L = some (.lst acc) ∧ RpL c.K c.dk H2 (AV (c.blk gh L) n2 own2) acc accD ∧
    lcL tg tt te (killE vs env) (ds.drop i) accD n2 (fun l n2 => Qd (.lst l) n2) (fun _ _ => False), ⟨ds.length, by omega, Nat.zero_le _, own', n1, [], [], R2, fun _ _ h => h, Ext.new hL, upd_same, .nil, by simpa using q⟩, fun i m H2 w => ?_⟩
  obtain ⟨hm, hle, own2, n2, acc, accD, R3, ho2, ex3, hL3, ra, q3⟩ := w
  have nd2 : ¬ IsDk c.dk n2 L := (R3.hid L List.mem_cons_self).2.1
  have hgh2 : ∀ p ∈ gh, Rp c.K c.dk H2 (AV (c.blk gh L) n2 own2) p.1 p.2 := fun p hp => R3.gh p (List.mem_append_left _ hp)
  obtain ⟨w1, w2, w3⟩ := hw _ i H2 hgh2
  by_cases hi : i < ds.length
  · refine .inr ⟨w1 hi, fun H' => ∃ own2 n2 acc accD, ER (c.blk gh L) own2 (killE vs env) n2 (wipe σ vs) H' ∧ (∀ i p, own2 i = some p → own' i = some p) ∧ Ext c.dk n1 n2 H1 H' ∧ H' L = some (.lst acc) ∧ RpL c.K c.dk H' (AV (c.blk gh L) n2 own2) acc accD ∧
      lcL tg tt te (killE vs env) (ds.drop (i + 1)) accD n2 (fun l n2 => Qd (.lst l) n2) (fun _ _ => False), fun H' w' => ⟨ds.length - (i + 1), by omega, rfl, hi, w'⟩, fun x H' y => ?_⟩
    obtain ⟨st, yd⟩ := w3 x H' y
    obtain ⟨d, hd, rd⟩ := yd hi
    have ex4 : Ext c.dk n2 n2 H2 H' := ext_step st
    have R4 : ER (c.blk gh L) own2 (killE vs env) n2 (wipe σ vs) H' := R3.go ex4 (vi_step R3.vi st)
    rw [List.drop_eq_getElem_cons hi] at q3
    have ed : ds[i] = d := by
      rw [List.getElem?_eq_getElem hi] at hd
      exact Option.some.inj hd
    rw [ed] at q3
    cases he : stT tg d (killE vs env) with
    | none =>
      simp only [lcL, he] at q3
      exact q3.elim
    | some env1 =>
      simp only [lcL, he] at q3
      refine gT_ok (c := c.blk gh L) R4 rd he fun own5 σ5 R5 hw5 ho5 => ⟨(hw5 vs hsl).trans wipe_wipe, gh, L, own5, env1, n2, R5, _, q3, fun b n6 H6 q6 e6 vi6 => ?_⟩
      have ex6 : Ext c.dk n2 n6 H2 H6 := ex4.trans e6
      have R4' : ER (c.blk gh L) own2 (killE vs env) n6 (wipe σ vs) H6 := R4.go e6 vi6
      have hL6 : H6 L = some (.lst acc) := (ex6.st L _ hL3).resolve_left nd2
      have nd6 : ¬ IsDk c.dk n6 L := (R4'.hid L List.mem_cons_self).2.1
      have ra6 : RpL c.K c.dk H6 (AV (c.blk gh L) n6 own2) acc accD := ra.ext R3.vi (fun _ z => AV.deck (c := c.blk gh L) z) ex6 fun _ z => AV.up (c := c.blk gh L) ex6 z
      rcases iteL_cases q6 with ⟨rfl, q6⟩ | ⟨rfl, q6⟩
      · refine ⟨true, rfl, ?_⟩
        show anyE c te σ5 H6 _
        refine ⟨gh, L, own5, env1, n6, R5.go e6 vi6, _, q6, fun y n7 v H7 q7 e7 vi7 r7 => ?_⟩
        obtain ⟨hz, q7⟩ := q7
        have hL7 : H7 L = some (.lst acc) := (e7.st L _ hL6).resolve_left nd6
        have R7 : ER (c.blk gh L) own2 (killE vs env) n7 (wipe σ vs) H7 := R4'.go e7 vi7
        have ra7 : RpL c.K c.dk H7 (AV (c.blk gh L) n7 own2) acc accD := ra6.ext R4'.vi (fun _ z => AV.deck (c := c.blk gh L) z) e7 fun _ z => AV.up (c := c.blk gh L) e7 z
        obtain ⟨R8, m8⟩ := R7.hidMut (o' := .lst (acc ++ [v])) List.mem_cons_self hL7
        have r7 : Rp c.K c.dk H7 (AV (c.blk gh L) n7 own5) v y := r7
        have rv : Rp c.K c.dk H7 (AV (c.blk gh L) n7 own2) v y := by
          refine r7.less ?_
          rintro a (h | h | ⟨j, h⟩ | h)
          · exact .inl h
          · exact .inr (.inl h)
          · obtain ⟨⟨d', h1⟩, _⟩ := R3.onl j a h
            exact .inr (.inr (.inl ⟨j, ho5 j a h fun z => (killE_own h1).1 (hsl j z)⟩))
          · exact .inr (.inr (.inr h))
        refine ⟨acc, hL7, by rw [ra7.length]; exact hz, own2, n7, acc ++ [v], accD ++ [y], R8, ho2, ?_, upd_same, m8 (ra7.append (.cons rv .nil)), q7⟩
        have ex := ex3.trans (ex6.trans e7)
        refine ⟨fun a o h => ?_, ex.up, ex.nw, fun a h z => ?_⟩
        · rcases ex.st a o h with z | z
          · exact .inl z
          · exact .inr (by rw [upd_ne (ne_of_none h hL)]; exact z)
        · by_cases w : a = L
          · rw [w, upd_same] at z; cases z
          · rw [upd_ne w] at z; exact ex.kp a h z
      · refine ⟨false, rfl, ?_⟩
        exact ⟨own2, n6, acc, accD, R4', ho2, ex3.trans ex6, hL6, ra6, q6⟩
  · have ei : i = ds.length := by omega
    refine .inl ⟨w2 (by omega), ?_⟩
    rw [ei, List.drop_length] at q3
    have q3 : Qd (.lst accD) n2 := q3
    refine g _ n2 _ H2 q3 (e.trans ex3) R3.vi ⟨L, rfl, e.fresh vi hL, nd2, ?_, acc, hL3, ?_⟩
    · have hz := e.fresh vi hL
      rintro (z | z | ⟨i, z⟩ | z)
      · exact R.ext.kp L (R.lo L z) hz
      · exact nd2 z
      · exact (R.onl i L z).2.2.2 hz
      · exact (R.hid L z).2.2.1 hz
    · refine ra.less ?_
      rintro a ((h | h | ⟨j, h⟩ | h) | h)
      · exact .inl h
      · exact .inr (.inl h)
      · obtain ⟨⟨d', h1⟩, _⟩ := R.onl j a h
        have nj : j ∉ vs := fun z => by
          have := List.all_eq_true.mp hno j z
          rw [h1] at this
          exact Bool.noConfusion this
        obtain ⟨p', h2, _⟩ := R3.ow j d' (own_killE nj h1)
        have h3 := how j p' (ho2 j p' h2)
        rw [h] at h3
        cases h3
        exact .inr (.inr (.inl ⟨j, h2⟩))
      · exact .inr (.inr (.inr (List.mem_cons_of_mem _ h)))
      · exact .inr (.inr (.inr (by rw [h]; exact List.mem_cons_self)))
end DL

/-! part eleven: what a def's text needs of its context; the rules in short, to be printed -/
namespace DL
open PySem PySem.Spec L2

structure Gd (P : Program) (w : World) (base : Heap) (k : Nat) (N : List Str) (sc : Scope) (X : Cx) (c : Cn) : Prop where
  nd : N.Nodup
  prog : X.prog = P
  w : X.w = w
  base : X.base = base
  N : X.N = N
  sc : X.env.scope = sc
  K : X.K = c.K
  mg : X.mg = c.mg
  calm : X.calm = true
  room : Room k X.A
  takes : Takes X c.W
  link : XLink c
  xlf : ∀ xd env n, c.Xq env xd n → lfL (xd.fs.map (·.2)) = true
section
variable {P : Program} {w : World} {base : Heap} {k : Nat} {N : List Str} {sc : Scope} {X : Cx} {c : Cn}
theorem Gd.hu (G : Gd P w base k N sc X c) : X.A.units + 150 < cLine := by have := G.room.un; omega
theorem Gd.gl {x : Str} (G : Gd P w base k N sc X c) (h : sc.names.lookup x = some .globalImplicit) : Gl X x := by
  unfold Gl Env.kindOf
  rw [G.sc]
  exact h
theorem Gd.wg {gh : List (V × D)} (G : Gd P w base k N sc X c) : Gd P w base k N sc X (c.wg gh []) :=
  ⟨G.nd, G.prog, G.w, G.base, G.N, G.sc, G.K, G.mg, G.calm, G.room, G.takes, fun own env n σ H xd cls od R x q => G.link own env n σ H xd cls od R.ofG x q, G.xlf⟩
theorem Gd.blk {scope : Scope} {s : Shared} {H : Hp} {cl : List (Str × Addr)} {C : Addr} {fp : List Addr} {gh : List (V × D)} {L : Addr} (G : Gd P w base k N sc X c) :
    Gd P w base k N (relS scope sc) (X.blk s H scope (compEnvC scope cl C X.env) fp) (c.blk gh L) :=
  ⟨G.nd, G.prog, G.w, G.base, G.N, by rw [← G.sc]; rfl, G.K, G.mg, G.calm, G.room, takes0, fun _ _ _ _ _ _ _ _ _ _ q => q.elim, fun _ _ _ q => q.elim⟩

/-! ### names, constants -/
def vS (i : Nat) : DE := fun env => match env[i]? with
  | some (.val d) => ret d
  | _ => stop
def vW (i : Nat) : DE := fun env => match env[i]? with
  | some (.val d) => ret d
  | some (.own d) => ret d
  | _ => stop
def kD (d : D) : DE := fun _ => ret d
/-- a name's kind -/
def visB (sc : Scope) (x : Str) : Bool := match sc.names.lookup x with
  | some .local => true
  | some .cell => true
  | some .free => true
  | _ => false
theorem vis_of {x : Str} (h : visB sc x = true) : Vis sc x := by
  unfold visB at h
  unfold Vis
  split at h <;> first | exact .inl (by assumption) | exact .inr (.inl (by assumption)) | exact .inr (.inr (by assumption)) | cases h
def nameOk (N : List Str) (sc : Scope) (i : Nat) (x : Str) : Bool := decide (N[i]? = some x) && visB sc x && !(x == ("__debug__" : Str)) && !(x == ("__classdict__" : Str))
theorem pe_v (G : Gd P w base k N sc X c) {i : Nat} {x : Str} {pos : Pos} (h : nameOk N sc i x = true) : PE X (.Name x pos) (tVar i) := by
  simp only [nameOk, Bool.and_eq_true, decide_eq_true_eq, Bool.not_eq_true'] at h
  obtain ⟨⟨⟨h1, h2⟩, h3⟩, h4⟩ := h
  exact pe_var (by rw [G.N]; exact h1) (by rw [G.sc]; exact vis_of h2) h3 h4
theorem e_v (G : Gd P w base k N sc X c) (i : Nat) {x : Str} {pos : Pos} (h : nameOk N sc i x = true) : PE X (.Name x pos) (tX c .s (vS i)) := by
  refine PE.imp (pe_v G h) fun σ H Q q => ?_
  obtain ⟨own, env, n, R, g⟩ := q
  unfold vS at g
  split at g
  · rename_i d hd
    obtain ⟨v, h1, h2⟩ := R.val i d hd
    exact ⟨v, h1, g.done R h2⟩
  · exact g.stop'.elim
theorem e_int {i : Int} {j : Nat} {pos : Pos} : PE X (.Constant (.int i) j pos) (tX c .s (kD (.int i))) := PE.imp pe_int fun σ H Q q => by
  obtain ⟨own, env, n, R, g⟩ := q
  exact g.done R (Rp.int _)
theorem e_bl {b : Bool} {j : Nat} {pos : Pos} : PE X (.Constant (.bool b) j pos) (tX c .s (kD (.bl b))) := PE.imp pe_bl fun σ H Q q => by
  obtain ⟨own, env, n, R, g⟩ := q
  exact g.done R (Rp.bl _)
theorem e_non {j : Nat} {pos : Pos} : PE X (.Constant .none j pos) (tX c .s (kD .non)) := PE.imp pe_non fun σ H Q q => by
  obtain ⟨own, env, n, R, g⟩ := q
  exact g.done R Rp.non
theorem e_str {x : Str} {j : Nat} {pos : Pos} (h : PyData.strOk x = true) : PE X (.Constant (.str x) j pos) (tX c .s (kD (.str x))) := PE.imp pe_str fun σ H Q q => by
  obtain ⟨own, env, n, R, g⟩ := q
  exact g.done R (Rp.str h)

/-! ### operators -/
section
variable {a b : Expr} {ta tb : DE} {ma mb md : Md} {pos : Pos}
theorem e_op {op : Operator} {r : R2} {f : D → D → Mo D} (ho : OpR X (binaryOp op) r) (o : Op2 c ma mb md r f) (ha : PE X a (tX c ma ta)) (hb : PE X b (tX c mb tb)) : PE X (.BinOp a op b pos) (tX c md (bin2 ta tb f)) :=
  PE.imp (pe_op ho ha hb) fun σ H Q q => op2_tX o q
theorem e_add (G : Gd P w base k N sc X c) (ha : PE X a (tX c ma ta)) (hb : PE X b (tX c mb tb)) : PE X (.BinOp a .Add b pos) (tX c .s (bin2 ta tb addD)) := e_op op_addAll (by rw [G.K]; exact o_add) ha hb
/-- a comparison: its parts, for both its uses -/
structure CmpX (X : Cx) (c : Cn) (op : CmpOp) (f : D → D → Mo D) : Prop where
  ex : ∃ r, OpR X (compareOp op) r ∧ ∀ ma mb, Op2 c ma mb .s r f
theorem x_eq (G : Gd P w base k N sc X c) : CmpX X c .Eq eqD := ⟨_, op_eqD (by have := G.hu; omega), fun _ _ => by rw [G.K]; exact o_eq⟩
theorem x_ne (G : Gd P w base k N sc X c) : CmpX X c .NotEq neD := ⟨_, op_neD (by have := G.hu; omega), fun _ _ => by rw [G.K]; exact o_ne⟩
theorem e_cmp {op : CmpOp} {f : D → D → Mo D} (o : CmpX X c op f) (ha : PE X a (tX c ma ta)) (hb : PE X b (tX c mb tb)) (hm : behindInMarks op b = false) : PE X (.Compare a [op] [b] pos) (tX c .s (bin2 ta tb f)) := by
  obtain ⟨r, h1, h2⟩ := o.ex
  exact pe_cmp' h1 (h2 _ _) ha hb hm
theorem t_cmp {op : CmpOp} {f : D → D → Mo D} (o : CmpX X c op f) (ha : PE X a (tX c ma ta)) (hb : PE X b (tX c mb tb)) (hm : behindInMarks op b = false) : PT X (.Compare a [op] [b] pos) (tT c (bin2 ta tb f)) := by
  obtain ⟨r, h1, h2⟩ := o.ex
  exact pt_cmp' h1 (h2 _ _) ha hb hm
/-! items, slices -/
theorem e_ix (G : Gd P w base k N sc X c) (ha : PE X a (tX c ma ta)) (hb : PE X b (tX c mb tb)) (hs : ∀ x y, subscripted b false x y = operate [x, y] (getItem x y)) : PE X (.Subscript a b pos) (tX c .s (bin2 ta tb ixD)) :=
  PE.imp (pe_ix (ix_all (by have := G.hu; omega)) ha hb hs) fun σ H Q q => by
    rw [G.K]
    exact op2_tX o_ix q
/-! calls of built-ins with one argument -/
structure CalX (X : Cx) (c : Cn) (v : Value) (md : Md) (f : D → Mo D) : Prop where
  ex : ∃ r, CallR X v r ∧ ∀ ma, OpC c ma md r f
theorem c_len (G : Gd P w base k N sc X c) : CalX X c (.builtin "len") .s lenD := ⟨_, call_lenAll, fun _ => by rw [G.K]; exact o_len⟩
/-- a built-in's name: global, not bound in the module -/
def glB (sc : Scope) (x : Str) : Bool := (match sc.names.lookup x with | some .globalImplicit => true | _ => false) && !(x == ("__debug__" : Str)) && !(x == ("__name__" : Str))
theorem glB_of {x : Str} (h : glB sc x = true) : sc.names.lookup x = some .globalImplicit ∧ (x == ("__debug__" : Str)) = false ∧ x ≠ "__name__" := by
  simp only [glB, Bool.and_eq_true, Bool.not_eq_true', beq_eq_false_iff_ne] at h
  obtain ⟨⟨h1, h2⟩, h3⟩ := h
  refine ⟨?_, by simpa using h2, h3⟩
  split at h1
  · assumption
  · cases h1
theorem e_callB (G : Gd P w base k N sc X c) {id : String} {x : Str} {f : D → Mo D} {p : Pos} (o : CalX X c (.builtin id) md f) (hg : glB sc x = true) (hm : c.mg x = none) (hv : bootBuiltins x = some (.builtin id)) (ha : PE X a (tX c ma ta))
    (he : starEach [a] X.env = (false, eval a X.env) :: starEach [] X.env) : PE X (.Call (.Name x p) [a] [] pos) (tX c md (un1 ta f)) := by
  obtain ⟨r, h1, h2⟩ := o.ex
  obtain ⟨g1, g2, g3⟩ := glB_of hg
  exact PE.imp (pe_callB h1 (G.gl g1) (by rw [G.mg]; exact hm) hv (pa_cons ha pa_nil he) g3 g2 he rfl) fun σ H Q q => opC_tX (h2 _) q
end

/-! ### calls of defs -/
section
variable {e : Expr} {es : List Expr} {u : DA} {p pos : Pos} {x : Str}
theorem e_def (G : Gd P w base k N sc X c) {np : Nat} {m : MD} (F : FOk P w c.K c.mg base k ⟨x, np, m⟩) (hg : glB sc x = true) (ha : PA X (e :: es) (tA c .s np u)) (hs : starEach (e :: es) X.env = (false, eval e X.env) :: starEach es X.env)
    (hpl : (backTo pos (starEach es X.env)).any (·.1) = false) : PE X (.Call (.Name x p) (e :: es) [] pos) (tX c .s (callT m u)) := by
  obtain ⟨g1, g2, g3⟩ := glB_of hg
  exact pe_def G.prog G.w G.K G.mg G.base F G.room G.takes (G.gl g1) ha g2 hs hpl fun σ H Q q => call_s G.link G.xlf q
end

/-! ### statements -/
section
variable {e : Expr} {te : DE} {i : Nat} {x : Str} {pos pos' : Pos}
def locB (sc : Scope) (x : Str) : Bool := match sc.names.lookup x with
  | some .local => true
  | some .cell => true
  | _ => false
def isLoc (sc : Scope) (x : Str) : Bool := match sc.names.lookup x with
  | some .local => true
  | _ => false
theorem loc_of {x : Str} (h : locB sc x = true) : L2.Loc sc x := by
  unfold locB at h
  unfold L2.Loc
  split at h <;> first | exact .inl (by assumption) | exact .inr (by assumption) | cases h
theorem isLoc_of {x : Str} (h : isLoc sc x = true) : sc.names.lookup x = some .local := by
  unfold isLoc at h
  split at h
  · assumption
  · cases h
def slotOk (N : List Str) (sc : Scope) (i : Nat) (x : Str) : Bool := decide (N[i]? = some x) && locB sc x
/-- a name to be stored: here any cell is of the def itself -/
structure FnC (X : Cx) : Prop where
  all : ∀ x, X.fn x = true
  stk : X.stack = X.env :: X.outer
  frm : X.env.frame = some X.env.locals
theorem s_asg (G : Gd P w base k N sc X c) (hf : FnC X) (h : slotOk N sc i x = true) (he : PE X e (tX c .s te)) (hs : swapsWith e (some (.Name x pos')) pos.line X.env = pure false) : PS X (.Assign [.Name x pos'] e pos) (tS c (asgS i te)) := by
  simp only [slotOk, Bool.and_eq_true, decide_eq_true_eq] at h
  exact PS.imp (ps_set (by rw [G.N]; exact G.nd) (by rw [G.N]; exact h.1) (by rw [G.sc]; exact loc_of h.2) he hs (.inl (hf.all x))) fun D σ H q => r_asg q
end
/-! targets -/
def slotsOk (N : List Str) (sc : Scope) : List Nat → List Str → Bool
  | [], [] => true
  | i :: is, x :: xs => slotOk N sc i x && slotsOk N sc is xs
  | _, _ => false
theorem g_nm (G : Gd P w base k N sc X c) {i : Nat} {x : Str} {pos : Pos} (hf : X.fn x = true ∨ isLoc sc x = true) (h : slotOk N sc i x = true) : PG X (.Name x pos) (gT X.K (.nm i)) := by
  simp only [slotOk, Bool.and_eq_true, decide_eq_true_eq] at h
  exact pg_name (by rw [G.N]; exact G.nd) (by rw [G.N]; exact h.1) (by rw [G.sc]; exact loc_of h.2) (hf.imp id fun h => by rw [G.sc]; exact isLoc_of h)
/-- unpacking -/
def unpS (tg : Tg) (e : DE) : DS := fun env k X n => e env n (fun d n' => match stT tg d env with | some env' => k.nx env' n' | none => False) (X env)
end
end DL

/-! part twelve: a def from its body; the law's own def, from the top -/
namespace DL
open PySem PySem.Spec L2

/-- what a def of nN slots computes -/
def envOf (nN : Nat) (ds : List D) : Env' := ds.map EV.val ++ List.replicate (nN - ds.length) EV.no
def defM (nN : Nat) (t : DS) : MD := fun ds n Q Xd => t (envOf nN ds) { nx := fun _ n' => Q .non n', rt := Q } (fun _ => Xd) n
section
variable {P : Program} {w : World} {K : PySem.W.Frag} {mg : Str → Option Value} {base : Heap} {k : Nat}
theorem er_start {c : Cn} {n : Gn} {H : Hp} {N : List Str} {vs : List V} {ds : List D} (h0 : c.H0 = H) (hn : c.n0 = n) (vi : VI c.K c.dk n H) (lo : ∀ a, c.O a → H a ≠ none) (dko : ∀ a, IsDk c.dk n a → c.O a) (hg : c.gh = []) (hh : c.hid = []) (r : RpL c.K c.dk H c.O vs ds)
    (hl : vs.length ≤ N.length) : ER c (fun _ => none) (envOf N.length ds) n (L2.start N vs) H := by
  have av : ∀ a, AV c n (fun _ => none) a → c.O a := by
    rintro a (z | z | ⟨_, z⟩ | z)
    · exact z
    · exact dko a z
    · cases z
    · rw [hh] at z; cases z
  have len := r.length
  refine ⟨vi, by rw [h0, hn]; exact Ext.refl, by rw [h0, hn]; exact vi, by rw [h0]; exact lo, fun i d e => ?_, fun i d e => ?_, fun i p e => (by cases e), fun i j p e => (by cases e), by simp [L2.start, envOf, len], fun p e => (by rw [hg] at e; cases e), fun a e => (by rw [hh] at e; cases e)⟩
  · unfold envOf at e
    by_cases hi : i < ds.length
    · rw [List.getElem?_append_left (by simpa using hi), List.getElem?_map] at e
      cases q : ds[i]? with
      | none => rw [q] at e; cases e
      | some d' =>
        rw [q] at e
        cases e
        obtain ⟨v, h1, h2⟩ := r.getD q
        refine ⟨v, ?_, h2.less av⟩
        unfold L2.start
        rw [List.getElem?_append_left (by simp; omega), List.getElem?_map, h1]
        rfl
    · rw [List.getElem?_append_right (by simpa using hi), List.getElem?_replicate] at e
      split at e <;> cases e
  · unfold envOf at e
    by_cases hi : i < ds.length
    · rw [List.getElem?_append_left (by simpa using hi), List.getElem?_map] at e
      cases q : ds[i]? with
      | none => rw [q] at e; cases e
      | some d' => rw [q] at e; cases e
    · rw [List.getElem?_append_right (by simpa using hi), List.getElem?_replicate] at e
      split at e <;> cases e
/-- THE RULE for a def -/
theorem fokN {x qual : Str} {st : Stmt} {f : Addr} {fd : FuncData} {N ps : List Str} {t : DS} {np : Nat} (F : Fun K x qual st f fd) (S : FnScope N ps (defScope st)) (hnp : ps.length = np) (hN : np ≤ N.length)
    (body : ∀ (X : Cx) (c : Cn), c.K = K → c.mg = mg → Gd P w base k N (defScope st) X c → FnC X → PassesOwn (model X.prog X.w) X.A X.env X.xe → PSs X (defBody st) (tS c t)) :
    FnOk P w K mg base (L2.CX P w) (k + 1) f fd ps (spD K mg np (defM N.length t)) := by
  subst hnp
  refine F.okX S (fun vs H Q E h => h.1) (fun cdv A outer s H vs Q E hr h => ?_)
  obtain ⟨hl, ds, A0, dk, n, r, lo, dko, vi, Qd, Xd, q, xlf, hQ, hX⟩ := h
  let c : Cn := { K := K, mg := mg, dk := dk, H0 := H, n0 := n, O := A0, W := fun cls od _ H' => E cls od H', Xq := fun _ => Xd, gh := [], hid := [] }
  have G : Gd P w base k N (defScope st) (cxOf (L2.CX P w) P w K mg base N qual (defScope st) f cdv A outer s H E) c :=
    { nd := S.nd, prog := rfl, w := rfl, base := rfl, N := rfl, sc := rfl, K := rfl, mg := rfl, calm := rfl, room := hr, takes := takes_of rfl rfl rfl rfl,
      link := fun own env n' σ H' xd cls od R x q => by
        obtain ⟨C, x1, x2, x3⟩ := x
        refine hX xd n' cls od H' q R.ext R.vi ⟨C, x1, x2, ?_⟩
        rcases x3 with x3 | ⟨d, fs, y1, y2, y3, y4⟩
        · exact .inl x3
        · exact .inr ⟨d, fs, y1, y2, y3, y4.less fun _ z => z.elim .inl fun z => .inr (.inl (.inr z))⟩
      xlf := fun xd _ n' q => xlf xd n' q }
  refine ⟨_, body _ c rfl rfl G ⟨fun _ => rfl, rfl, rfl⟩ (passes_of rfl), ?_⟩
  refine ⟨_, _, n, er_start (c := c) rfl rfl vi lo dko rfl rfl r (by rw [hl]; exact hN), { nx := fun _ n' => Qd .non n', rt := Qd }, ⟨fun own env n' σ H' q R => ?_, fun _ _ _ _ _ q => q.elim, fun _ _ _ _ _ q => q.elim, fun d n' v H' q e vi' r' => ?_⟩, q⟩
  · exact hQ .non n' .non H' q R.ext R.vi .non
  · exact hQ d n' v H' q e vi' (r'.less fun _ z => z.elim .inl fun z => .inr (.inr z))
theorem fok {x qual : Str} {st : Stmt} {f : Addr} {fd : FuncData} {N ps : List Str} {t : DS} {np : Nat} (F : Fun K x qual st f fd) (S : FnScope N ps (defScope st)) (hx : mg x = some (.ref f)) (hb : Binds K fd ps []) (hnp : ps.length = np) (hN : np ≤ N.length)
    (body : ∀ (X : Cx) (c : Cn), c.K = K → c.mg = mg → Gd P w base k N (defScope st) X c → FnC X → PassesOwn (model X.prog X.w) X.A X.env X.xe → PSs X (defBody st) (tS c t)) :
    FOk P w K mg base (k + 1) ⟨x, np, defM N.length t⟩ := ⟨f, fd, ps, hx, fokN F S hnp hN body, F.kp, hb⟩
end

/-! ### the law's def -/
/-- its context -/
structure Top (P : Program) (w : World) (base : Heap) (k : Nat) (N : List Str) (sc : Scope) (K : PySem.W.Frag) (mg : Str → Option Value) (X : Cx) : Prop where
  nd : N.Nodup
  prog : X.prog = P
  w : X.w = w
  base : X.base = base
  N : X.N = N
  sc : X.env.scope = sc
  K : X.K = K
  mg : X.mg = mg
  calm : X.calm = true
  room : Room k X.A
  guards : X.A.guards = some []
  fn : FnC X
  pass : PassesOwn (model X.prog X.w) X.A X.env X.xe
theorem Top.gd {P : Program} {w : World} {base : Heap} {k : Nat} {N : List Str} {sc : Scope} {K : PySem.W.Frag} {mg : Str → Option Value} {X : Cx} {c : Cn} (T : Top P w base k N sc K mg X) (hK : c.K = K) (hm : c.mg = mg) (hW : c.W = fun _ _ _ _ => False) (hX : c.Xq = fun _ _ _ => False) : Gd P w base k N sc X c :=
  { nd := T.nd, prog := T.prog, w := T.w, base := T.base, N := T.N, sc := T.sc, K := T.K.trans hK.symm, mg := T.mg.trans hm.symm, calm := T.calm, room := T.room, takes := by rw [hW]; exact takes0,
    link := fun _ _ _ _ _ _ _ _ _ _ q => by rw [hX] at q; exact q.elim, xlf := fun _ _ _ q => by rw [hX] at q; exact q.elim }
/-- what the script's heap is like -/
def scrH (K : PySem.W.Frag) (a : Addr) (us : List Value) (ns : List Int) : Hp := fun b => match K.lookup a with
  | none => if b = a then some (.frz { cls := .type "list", data := .seq us.toArray } (.lst (ns.map V.int))) else none
  | some _ => none
theorem top_law {l : PySem.W.OpenLaw} {n k : Nat} {q : Program} {loose : List Str} {XP : (Str → Option Value) → Heap → Prop} {YP : World → Heap → Prop} {d : DefRec} {K : Params → PySem.W.Frag} {x qual : Str} {st : Stmt} {N : List Str}
    (hn : l.most = some n) (hn2 : n ≤ sizeLine) (hdf : d.params.defaults = []) (hr : Room (k + 1) callerA) (S : FnScope N [x] (defScope st)) (hY : ∀ (w : World) (h : Heap), YP w h → (K w.params).In h)
    (F : ∀ (w : World) (mg : Str → Option Value) (fa : Addr) (h : Heap), (K w.params).In h → h.Ns mainGlobals mg → mg d.name = some (.ref fa) →
      ∃ (y : Str) (fd : FuncData), Fun (K w.params) y qual st fa fd ∧ (∀ (s : Shared) (u : Value), BindsTo s fd ⟨[u], []⟩ [(x, u)]) ∧
        ∀ base : Heap, (K w.params).In base → base.Ns mainGlobals mg → ∀ (X : Cx) (a : Addr) (ns : List Int) (H : Hp), Top l.prog w base k N (defScope st) (K w.params) mg X → ns.length ≤ n → SqL (K w.params) H a (ns.map V.int) →
          ∃ t, PSs X (defBody st) t ∧ t { nx := fun _ _ => False, rt := fun v _ => v = .bl true } (L2.start N [.ref a]) H) :
    PySem.W.WalkO q loose XP YP l.row.toRowW d [] (fun f vs => PySem.call f vs) := by
  refine Att.attach_call hn hdf fun w s0 s1 mg mb fa ob pmv cdw docv a us ns G hYP hob hdt hcr hmg hscr hnum hle hgen => ?_
  have kin1 := hY w _ hYP
  obtain ⟨y, fd, FF, hbi, hB⟩ := F w mg fa _ kin1 G.T.g hmg
  have rvs := vals_ints hnum
  have lns : us.length = ns.length := hnum.length
  generalize hHe : scrH (K w.params) a us ns = Hs
  have hs1 : ∀ b, Hs b ≠ none → b = a ∧ (K w.params).lookup a = none ∧ Hs b = some (.frz { cls := .type "list", data := .seq us.toArray } (.lst (ns.map V.int))) := by
    intro b hb
    rw [← hHe] at hb ⊢
    unfold scrH at hb ⊢
    split at hb
    · split at hb
      · rename_i h1 h2
        exact ⟨h2, h1, by simp only [h1, h2, if_true]⟩
      · exact absurd rfl hb
    · exact absurd rfl hb
  have seqS : SqL (K w.params) Hs a (ns.map V.int) := by
    cases kl : (K w.params).lookup a with
    | none =>
      refine .inl (.inr ⟨{ cls := .type "list", data := .seq us.toArray }, ?_⟩)
      rw [← hHe]
      simp only [scrH, kl, if_true]
    | some o =>
      have e1 := kin1 a o kl
      rw [hscr] at e1
      cases e1
      exact .inr ⟨_, us.toArray, _, kl, rfl, rfl, rfl, by rw [List.size_toArray, lns]; omega, by simpa using rvs⟩
  have hok1 : HOk l.prog w Hs s1.heap := fun b u e => by
    obtain ⟨e1, e2, e3⟩ := hs1 b (by rw [e]; simp)
    rw [e] at e3
    cases e3
    subst e1
    exact ⟨hscr, by rw [List.length_map]; omega, us, _, rvs, hscr⟩
  have off : ∀ {b : Addr} {o : Obj}, s1.heap.get? b = some o → (∃ es ep, o.data = .dict es ep) → Hs b = none := fun {b o} e ⟨es, ep, e2⟩ => by
    cases z : Hs b with
    | none => rfl
    | some u =>
      obtain ⟨z1, _⟩ := hs1 b (by rw [z]; simp)
      rw [z1, hscr] at e
      cases e
      exact Data.noConfusion (show Data.seq us.toArray _ = Data.dict es ep from e2)
  have nsB : ∀ {b : Addr} {m : Str → Option Value}, s1.heap.Ns b m → (hidT s1.heap Hs).Ns b m := fun {b m} z => by
    obtain ⟨o, es, ep, z1, z2, z3⟩ := z
    exact ⟨o, es, ep, hidT_get z1 (off z1 ⟨es, ep, z2⟩), z2, z3⟩
  have kinB : (K w.params).In (hidT s1.heap Hs) := fun b o e => hidT_get (kin1 b o e) (by
    cases z : Hs b with
    | none => rfl
    | some u =>
      obtain ⟨z1, z2, _⟩ := hs1 b (by rw [z]; simp)
      rw [z1, z2] at e
      cases e)
  have modB : Mod (K w.params) mg (hidT s1.heap Hs) := ⟨kinB, nsB G.T.g, ⟨mb, nsB G.T.b, G.T.builtins⟩, let ⟨mc, z1, z2⟩ := G.T.nolimit; ⟨mc, nsB z1, z2⟩⟩
  have env0 : Env0 l.prog w (K w.params) mg (hidT s1.heap Hs) callerA [] s1 Hs :=
    ⟨rfl, modB, fun b o e => of_hidT e, by rw [hidT_size]; exact Nat.le_refl _, trivial, fun b hb => (by cases hb), hok1, .of_eq hgen⟩
  obtain ⟨oc, od, kV, doc, pm, an, cdv, ct, osl, e1, lk, hcd⟩ := FF.ex
  subst e1
  have lim : s1.heap.NoLimit := G.T.nolimit
  have parK : ∀ z ∈ ([x] : List Str).zip [Value.ref a], (defScope st).names.lookup z.1 = some .local ∨ ((defScope st).names.lookup z.1 = some .cell ∧ ((cellsFrom (s1.heap.objs.size + 1) (defScope st).names []).lookup z.1).isSome = true) := fun z hz => by
    rcases S.par z.1 (List.of_mem_zip hz).1 with z1 | z1
    · exact .inl z1
    · exact .inr ⟨z1, PySem.W.cellsFrom_some _ _ _ (.inl z1)⟩
  refine codeAny_call_function hr.depth (kin1 _ _ lk) rfl S.co S.gen rfl (PySem.W.codeRec_of kin1 hcd) (hbi _ _ _ _ _ _ ?_)
  refine wpAny_newFunctionEnv_cells S.kind parK fun env he s2 xx => ?_
  subst he
  refine ⟨lim.keeps xx.toInCall.keep, codeAny_func ?_⟩
  have I := inv_start (CX := CX0) (E := fun _ _ _ => False) (vs := [V.ref a]) S hr.hd env0 rfl (.cons rfl .nil) xx
  obtain ⟨t, ht, hq⟩ := hB _ kinB (nsB G.T.g) (cxOf CX0 l.prog w (K w.params) mg (hidT s1.heap Hs) N qual (defScope st) fa cdv callerA [] s1 Hs fun _ _ _ => False) a ns Hs
    { nd := S.nd, prog := rfl, w := rfl, base := rfl, N := rfl, sc := rfl, K := rfl, mg := rfl, calm := rfl, room := hr.deeper _, guards := rfl, fn := ⟨fun _ => rfl, rfl, rfl⟩, pass := passes_of rfl } hle seqS
  refine wpAny_mono (ht.run [] s2 _ Hs _ I hq) (fun fl s3 hs => ?_) fun e s3 hs => wpAny_mono hs (fun _ _ f => f.elim) fun _ _ f => f.elim
  cases fl with
  | ret u =>
    obtain ⟨v, σ', H', J, rv, q1⟩ := hs
    have q1 : v = .bl true := q1
    subst q1
    obtain rfl : u = Value.bool true := rv
    have un : Un (frs []) [] Hs H' s1.heap s3.heap := J.base
    refine ⟨rfl, OldK.of_keep fun b o e => ?_, J.os, J.bare⟩
    cases z : Hs b with
    | none => exact un.keep b o e z (fun z => by cases z) fun z => by cases z
    | some u =>
      obtain ⟨_, _, z3⟩ := hs1 b (by rw [z]; simp)
      have z4 := un.frzs b _ _ z3
      have o1 := (hok1 b _ z3).1
      have o2 := (J.hok b _ z4).1
      rw [e] at o1
      cases o1
      exact o2
  | next => obtain ⟨_, _, _, f⟩ := hs; exact f.elim
  | brk => obtain ⟨_, _, _, f⟩ := hs; exact f.elim
  | cont => obtain ⟨_, _, _, f⟩ := hs; exact f.elim
end DL

/-! part thirteen: what is shown; the deck -/
namespace DL
open PySem PySem.Spec L2

/-! ### repr -/
def shw (d : D) : Str := (py d).shown
def shOk (d : D) : Bool := okD d && (py d).showable && decide ((py d).depth ≤ 60) && decide ((shw d).length ≤ sizeLine) && PyData.strOk (shw d)
def reprD (d : D) : Mo D := need (shOk d = true) (ret (.str (shw d)))
mutual
theorem okD_noDict : ∀ {d : D}, okD d = true → (py d).hasDict = false
  | .non, _ => rfl
  | .bl _, _ => rfl
  | .int _, _ => rfl
  | .str _, _ => rfl
  | .tup l, h => by
    have := okL_noDict (l := l) (by simpa [okD] using h)
    simpa [py, PyData.hasDict] using this
  | .lst l, h => by
    have := okL_noDict (l := l) (by simpa [okD] using h)
    simpa [py, PyData.hasDict] using this
  | .dct _ _, h => by simp [okD] at h
  | .deck, h => by simp [okD] at h
  | .obj _, h => by simp [okD] at h
theorem okL_noDict : ∀ {l : List D}, okL l = true → PyData.hasDictAll (pyL l) = false
  | [], _ => rfl
  | d :: l, h => by
    simp only [okL, Bool.and_eq_true] at h
    have h1 := okD_noDict h.1
    have h2 := okL_noDict h.2
    simp [pyL, PyData.hasDictAll, h1, h2]
end
def rRepr (K : PySem.W.Frag) : List V → Hp → VK → Prop := fun xs H Q => ∃ x d, xs = [x] ∧ Dp K H x d ∧ d.showable = true ∧ d.hasDict = false ∧ d.depth ≤ 60 ∧ d.shown.length ≤ sizeLine ∧ Q (.str d.shown) H
theorem call_reprA {X : Cx} (hg : X.A.guards = some []) (hu : X.A.units + 150 < cLine) : CallR X (.builtin "repr") (rRepr X.K) := by
  intro pins s σ H xs us Q I r h
  obtain ⟨x, d, e1, hd, h1, h2, h3, h4, q⟩ := h
  subst e1
  obtain ⟨u, e2, ru⟩ := vals1 r
  subst e2
  obtain ⟨as, rd⟩ := Dp.reads I d x u hd ru
  cases rd with
  | none => exact PySem.P.repr_of_none ⟨.str _, H, I.tok _, ⟨_, rfl⟩, q⟩
  | bool b => exact PySem.P.repr_of_bool ⟨.str _, H, I.tok _, ⟨_, rfl⟩, q⟩
  | int i t => exact PySem.P.repr_of_int (by simpa [PyData.showable] using h1) ⟨.str _, H, I.tok _, ⟨_, rfl⟩, q⟩
  | str z t => exact PySem.P.repr_of_str ⟨.str _, H, I.tok _, ⟨_, rfl⟩, q⟩ h4
  | list a1 a2 a3 a4 => exact repr_of_reads' (.list a1 a2 a3 a4) h1 (fun e => by rw [h2] at e; cases e) hg (by omega) (fun _ _ e => e) (fun h' u tk hk => ⟨.str _, H, I.kept hk, ⟨_, rfl⟩, q⟩) h4
  | tuple a1 a2 a3 a4 => exact repr_of_reads' (.tuple a1 a2 a3 a4) h1 (fun e => by rw [h2] at e; cases e) hg (by omega) (fun _ _ e => e) (fun h' u tk hk => ⟨.str _, H, I.kept hk, ⟨_, rfl⟩, q⟩) h4
  | dict a1 a2 a3 a4 a5 => simp [PyData.hasDict] at h2
section
variable {P : Program} {w : World} {base : Heap} {k : Nat} {N : List Str} {sc : Scope} {X : Cx} {c : Cn} {ma : Md}
end

/-! ### the draw -/
def drawM : MD := fun ds => match ds with
  | [.deck, .int m] => drawD m
  | _ => stop
theorem VI.draw {K : PySem.W.Frag} {dk : DkT} {n : Gn} {H H' : Hp} {p s : Addr} {k : Nat} {xs xs' : List V} (vi : VI K dk n H) (e : dk = some (p, s)) (g1 : H' p = some (.lst xs')) (g2 : ∀ a o, a ≠ p → H a = some o → H' a = some o) (h1 : H p = some (.lst xs)) (hd : Deck p s k H') : VI K dk ⟨k, n.sto⟩ H' where
  dck := fun p' s' e' => by
    rw [e] at e'
    cases e'
    exact ⟨hd, (vi.dck p s e).2⟩
  st := fun a o q => by
    have na : a ≠ p := fun z => (vi.dck p s e).2.1 (by unfold Mu; rw [← z]; rw [show slook n.sto a = some o from q]; simp)
    have ht : ∀ a xs, H a = some (.tup xs) → H' a = some (.tup xs) := fun a ys w => g2 a _ (fun z => by rw [z, h1] at w; cases w) w
    have hf : ∀ a ob u, H a = some (.frz ob u) → H' a = some (.frz ob u) := fun a ob u w => g2 a _ (fun z => by rw [z, h1] at w; cases w) w
    have st := vi.st a o q
    cases o with
    | lst l =>
      obtain ⟨l0, ys, y1, y2⟩ := st
      exact ⟨l0, ys, g2 a _ na y1, Rp.lf_mono ht hf l0 y2⟩
    | ins C fs =>
      obtain ⟨l0, C, dx, vs, hc, y1, y2, y3, y4⟩ := st
      exact ⟨l0, C, dx, vs, hc, g2 a _ na y1, g2 dx _ (fun z => by rw [z, h1] at y2; cases y2) y2, y3, Rp.lf_mono ht hf l0 y4⟩
    | err C fs =>
      obtain ⟨l0, C, hc, ⟨e0, y1⟩ | ⟨dx, vs, y1, y2, y3, y4⟩⟩ := st
      · exact ⟨l0, C, hc, .inl ⟨e0, g2 a _ na y1⟩⟩
      · exact ⟨l0, C, hc, .inr ⟨dx, vs, g2 a _ na y1, g2 dx _ (fun z => by rw [z, h1] at y2; cases y2) y2, y3, Rp.lf_mono ht hf l0 y4⟩⟩
/-- what its text needs of the deck, what it leaves -/
theorem draw_end {K : PySem.W.Frag} {mg : Str → Option Value} {vs : List V} {H : Hp} {Q : VK} {E : XK} (h : spD K mg 2 drawM vs H Q E) : ∃ (p s : Addr) (ns : List Int) (i l j m : Int), vs = [.ref p, .int m] ∧ s ≠ p ∧ H p = some (.lst [.ref s, .int i, .int l, .int j]) ∧ H s = some (.lst (ns.map V.int)) ∧
    ns.length ≤ 63 ∧ 0 ≤ i ∧ 0 ≤ l ∧ 0 ≤ j ∧ j + 1 ≤ most ∧ 0 < m ∧ m < 1073741824 ∧
    ∀ (H' : Hp) (i' l' r : Int), H' p = some (.lst [.ref s, .int i', .int l', .int (j + 1)]) → (∀ a o, a ≠ p → H a = some o → H' a = some o) → 0 ≤ i' → 0 ≤ l' → 0 ≤ r → r < m → Q (.int r) H' := by
  obtain ⟨hl, ds, A, dk, n, r, lo, dko, vi, Qd, Xd, q, xlf, hQ, hX⟩ := h
  unfold drawM at q
  split at q
  · rename_i m
    cases r with
    | cons r1 r =>
      cases r with
      | cons r2 r =>
        cases r
        cases r1
        rename_i p s e
        cases r2
        obtain ⟨⟨ns, i, l, j, h1, h2, h3, h4, h5, h6, h7, h8⟩, mp, ms⟩ := vi.dck p s e
        obtain ⟨q1, q2, q3, q4⟩ := q
        refine ⟨p, s, ns, i, l, j, m, rfl, h2, h1, h3, h4, h5, h6, h7, by omega, q2, q3, fun H' i' l' r g1 g2 g3 g4 g5 g6 => ?_⟩
        refine hQ (.int r) ⟨n.k - 1, n.sto⟩ (.int r) H' (q4 r g5 g6) ⟨fun a o ha => ?_, fun _ z => z, fun _ z => .inl z, fun a ha z => ?_⟩ (vi.draw e g1 g2 h1 ⟨ns, i', l', j + 1, g1, h2, g2 s _ h2 h3, h4, g3, g4, by omega, by omega⟩) (.int r)
        · by_cases ea : a = p
          · exact .inl (.inl ⟨p, s, e, .inl ea⟩)
          · exact .inr (g2 a o ea ha)
        · by_cases ea : a = p
          · rw [ea, g1] at z; cases z
          · cases w : H a with
            | none => exact ha w
            | some o => rw [g2 a o ea w] at z; cases z
  · exact q.elim
/-- sizes of what is mixed -/
theorem mix1 {a j : Int} (h0 : 0 ≤ j) (h1 : j + 1 ≤ most) : (a % 2147483579 + 73856093 * (j + 1)).natAbs < 2 ^ 64 := by
  have h2 := Int.emod_nonneg a (show (2147483579 : Int) ≠ 0 by decide)
  have h3 := Int.emod_lt_of_pos a (show (0 : Int) < 2147483579 by decide)
  unfold most at h1
  omega
theorem mix2 {a j : Int} (h0 : 0 ≤ j) (h1 : j + 1 ≤ most) : (a % 2147483629 * (2 * (j + 1) + 7) + 6151).natAbs < 2 ^ 64 := by
  have h2 := Int.emod_nonneg a (show (2147483629 : Int) ≠ 0 by decide)
  have h3 := Int.emod_lt_of_pos a (show (0 : Int) < 2147483629 by decide)
  unfold most at h1
  have h4 : 0 ≤ a % 2147483629 * (2 * (j + 1) + 7) := Int.mul_nonneg h2 (by omega)
  have h5 : a % 2147483629 * (2 * (j + 1) + 7) ≤ 2147483629 * 2000000007 := Int.mul_le_mul (by omega) (by omega) (by omega) (by omega)
  have h6 : (2147483629 * 2000000007 : Int) = 4294967273032385403 := by decide
  omega
end DL
namespace DL
open PySem PySem.Spec L2
theorem ints_dpL {K : PySem.W.Frag} {H : Hp} : ∀ ns : List Int, DpAll K H (ns.map V.int) (ns.map PyData.int)
  | [] => .nil
  | n :: ns => .cons (.int n) (ints_dpL ns)
theorem ints_dp {K : PySem.W.Frag} {H : Hp} {s : Addr} {ns : List Int} (h : H s = some (.lst (ns.map V.int))) : Dp K H (.ref s) (.list (ns.map PyData.int)) := .lst (SqL.of h) (ints_dpL ns)
theorem shaped_ints (ns : List Int) : SeqAt.shaped (.list (ns.map PyData.int)) = true := by
  have h1 : ∀ ns : List Int, PyData.canLayAll0 (ns.map PyData.int) = true ∧ PyData.depthAll (ns.map PyData.int) = 0 := fun ns => by
    induction ns with
    | nil => exact ⟨rfl, rfl⟩
    | cons n ns ih => exact ⟨by simp [PyData.canLayAll0, PyData.canLay0, ih.1], by simp [PyData.depthAll, PyData.depth, ih.2]⟩
  unfold SeqAt.shaped
  simp [PyData.canLay0, PyData.depth, (h1 ns).1, (h1 ns).2]
end DL
namespace DL
open PySem PySem.Spec L2
theorem draw_cell {ns : List Int} {i : Int} (hi : 0 ≤ i) (hpos : 0 < (ns.length : Int)) : ∃ z, atI (ns.map V.int) (i % (ns.length : Int)) = some (.int z) := by
  have h1 := Int.emod_nonneg i (show (ns.length : Int) ≠ 0 by omega)
  have h2 := Int.emod_lt_of_pos i hpos
  obtain ⟨m, hm⟩ := Int.eq_ofNat_of_zero_le h1
  have hl : m < ns.length := by omega
  refine ⟨ns[m], ?_⟩
  rw [hm]
  exact atI_nat (by rw [List.getElem?_map, List.getElem?_eq_getElem hl]; rfl)
end DL
namespace DL
theorem small_mod {a m : Int} (h : 0 < m) (h2 : m < 2 ^ 64) : -(2 ^ 64) < a % m ∧ a % m < 2 ^ 64 := by
  have h3 := Int.emod_nonneg a (show m ≠ 0 by omega)
  have h4 := Int.emod_lt_of_pos a h
  exact ⟨by omega, by omega⟩
end DL

/-! part fourteen: more rules to be printed: comprehensions, loops, texts put together, max with a default -/
namespace DL
open PySem PySem.Spec L2
section
variable {P : Program} {w : World} {base : Heap} {k : Nat} {N : List Str} {sc : Scope} {X : Cx} {c : Cn}

/-! ### statements -/
section
variable {e : Expr} {te : DE} {i : Nat} {x : Str} {pos pos' apos : Pos} {body rest : List Stmt} {b : DS}
theorem s_forG (G : Gd P w base k N sc X c) (hp : PassesOwn (model X.prog X.w) X.A X.env X.xe) {tge iter : Expr} {tg : Tg} (ks : List Nat) {it : DI} (hi : PI X tge iter (tI c it)) (hg : PG X tge (gT X.K tg)) (hs : ∀ x, foldedSetIterable iter X.env x = pure x)
    (hb : ∀ gh, Gd P w base k N sc X (c.wg gh []) → PSs X body (tS (c.wg gh []) b)) : PS X (.For tge iter body [] pos) (tS c (forS tg ks it b)) := s_for G.K hp G.calm hi hg (fun gh => hb gh G.wg) hs
end

/-! ### comprehensions -/
section
variable {elt tge iter : Expr} {ifs : List Expr} {scope : Scope} {pos : Pos} {tg : Tg} {it : DI} {tt te : DE}
theorem e_lc (G : Gd P w base k N sc X c) (own : List (Str × Nat)) (hi : PI X tge iter (tI c it)) (ok : blkC N sc scope own = true) (hsl : (slotsT tg).all (fun i => (own.map (·.2)).contains i) = true) (hs : ∀ x, foldedSetIterable iter X.env x = pure x)
    (hg : ∀ (X' : Cx) (c' : Cn), Gd P w base k N (relS scope sc) X' c' → X'.A = X.A → X'.fn = (fun x => scope.names.lookup x == some .cell) → PG X' tge (gT X'.K tg))
    (ht : ∀ (X' : Cx) (c' : Cn), c'.K = c.K → c'.mg = c.mg → Gd P w base k N (relS scope sc) X' c' → X'.A = X.A → PTs X' ifs (tT c' tt))
    (he : ∀ (X' : Cx) (c' : Cn), c'.K = c.K → c'.mg = c.mg → Gd P w base k N (relS scope sc) X' c' → X'.A = X.A → PE X' elt (tX c' .s te)) : PE X (.ListComp elt [⟨tge, iter, ifs, 0⟩] scope pos) (tX c .f (lcT tg it tt te (own.map (·.2)))) := by
  refine PE.imp (pe_lc (g := gT X.K tg) G.calm (by rw [G.N]; exact G.nd) hi (own := own) (by rw [G.N, G.sc]; exact blkOk_by ok)
    (fun s H C cl fp => by have := hg _ _ (G.blk (gh := []) (L := 0) (scope := scope) (s := s) (H := H) (C := C) (cl := cl) (fp := fp)) rfl rfl; exact this)
    (fun s H C cl fp => pt_any fun gh L => ht _ _ rfl rfl G.blk rfl) (fun s H C cl fp => pe_any fun gh L => he _ _ rfl rfl G.blk rfl) hs) fun σ H Q q => ?_
  rw [G.K]
  exact r_lc (fun i hi => by
    have := List.all_eq_true.mp hsl i hi
    simpa using this) q
end

/-! ### an empty dict; texts put together -/
def strL : List D → Option (List Str)
  | [] => some []
  | .str s :: l => (strL l).map (s :: ·)
  | _ => none
def joinD (s : Str) (b : D) : Mo D := match rowD b with
  | some l => match strL l with
    | some ys => need ((ys.map (·.length)).sum + ys.length * s.length ≤ 16777216 ∧ PyData.strOk (Txt.join s ys) = true) (ret (.str (Txt.join s ys)))
    | none => stop
  | none => stop
theorem Rw.row {K : PySem.W.Frag} {dk : DkT} {H : Hp} {A : Addr → Prop} {v : V} {d : D} {l : List D} (h : Rw K dk n H A v d) (e : rowD d = some l) : ∃ a xs, v = .ref a ∧ (SqL K H a xs ∨ SqT K H a xs) ∧ RpL K dk H A xs l := by
  cases d with
  | lst m =>
    cases e
    obtain ⟨p, xs, e1, n1, s1, r1⟩ := h
    exact ⟨p, xs, e1, .inl (SqL.of s1), r1⟩
  | tup m =>
    cases e
    obtain ⟨p, xs, e1, s1, r1⟩ := Rp.tup' h
    exact ⟨p, xs, e1, .inr s1, r1⟩
  | _ => simp [rowD] at e
/-! max with a default -/
def intL : List D → Option (List Int)
  | [] => some []
  | .int s :: l => (intL l).map (s :: ·)
  | _ => none
def maxDD (a : D) (i : Int) : Mo D := match a with
  | .lst l => match intL l with
    | some [] => ret (.int i)
    | some (y :: ys) => ret (.int (ys.foldl max y))
    | none => stop
  | _ => stop
def rMaxDf (K : PySem.W.Frag) : List V → List V → Hp → VK → Prop := fun xs zs H Q => ∃ (a : Addr) (ns : List Int) (d : Int), xs = [.ref a] ∧ zs = [.int d] ∧ SqL K H a (ns.map V.int) ∧ Q (.int (match ns with | [] => d | y :: ys => ys.foldl max y)) H
end
end DL

/-! sets of texts: made of a list, gone through in whatever order -/
namespace DL.St
open PySem PySem.Spec L2
/-- the text of an entry -/
def tx (e : Int × Value) : Str := match e.2 with
  | .str x _ => x
  | _ => ⟨#[]⟩
def Good (w : World) (e : Int × Value) : Prop := ∃ x t, e = (hashStr w x, Value.str x t)
/-- the set of the texts L, in the order of its rows -/
structure SR (w : World) (h : Heap) (a : Addr) (L : List Str) : Prop where
  ex : ∃ o es ep t, h.get? a = some o ∧ o.ExactSet ∧ o.data = .set es ep t ∧ (∀ e ∈ es.toList, Good w e) ∧ es.toList.map tx = L ∧ t.fits es.size = true ∧ Ris t.place.toList ∧ (w.params.followText "set-order" = true ∨ t.led = true)
  nd : L.Nodup
  few : L.length < scanBound
section
variable {P : Program} {w : World} {A : Around} {E : Value → Shared → Prop} {s : Shared} {a : Addr} {L : List Str} {h h' : Heap}
theorem good_els {l : List (Int × Value)} (g : ∀ e ∈ l, Good w e) : ElemsOf (strKind P w) l := fun e he => by
  obtain ⟨x, t, rfl⟩ := g e he
  exact ⟨⟨x, by show Value.isStrOf x (.str x t) = true; simp [Value.isStrOf], rfl⟩, rfl⟩
theorem is_tx {e : Int × Value} (g : Good w e) (x : Str) : (strKind P w).is x e.2 = true ↔ tx e = x := by
  obtain ⟨y, t, rfl⟩ := g
  show Value.isStrOf x (.str y t) = true ↔ y = x
  simp [Value.isStrOf]
theorem SR.size {o : Obj} {es : Array (Int × Value)} {L : List Str} (e : es.toList.map tx = L) : es.size = L.length := by
  rw [← e, List.length_map, Array.length_toList]
/-- behind the new entry: the table is laid again, or it is not -/
theorem add_end {g : Bool → Sem Unit} (hg : ∀ (b : Bool) (z : Shared) (Q : Unit → Shared → Prop), Q () z → wpAny (model P w) A (g b) Q E z) {o : Obj} {es es1 : Array (Int × Value)} {ep : Nat} {t t1 : SetTable} {wd : Bool} {M : List Str} {R : Option Bool → Shared → Prop}
    (ho : s.heap.get? a = some o) (hx : o.ExactSet) (hd : o.data = .set es ep t) (gd : ∀ e ∈ es1.toList, Good w e) (pm : (es1.toList.map tx).Perm M) (ndM : M.Nodup) (fewM : M.length < scanBound) (fit : t1.fits es1.size = true) (ri : Ris t1.place.toList) (le : w.params.followText "set-order" = true ∨ t1.led = true)
    (fin : ∀ (k : Heap) (M' : List Str), Heap.SameBut a s.heap k → M'.Perm M → SR w k a M' → R (some true) { s with heap := k }) :
    wpAny (model P w) A (do
      storeSet a es1 t1
      if (!wd && t1.tooFull) = true then do
        g (relayAll t1 es1 (SetTable.grown es1.size)).2.2
        storeSet a (relayAll t1 es1 (SetTable.grown es1.size)).1 (relayAll t1 es1 (SetTable.grown es1.size)).2.1
        pure (some true)
      else pure (some true)) R E s := by
  have sz1 : es1.size = M.length := by rw [← pm.length_eq, List.length_map, Array.length_toList]
  have b1 : es1.size < scanBound := by rw [sz1]; exact fewM
  have put1 := L2.store_at (es' := es1) (t' := t1) ho hd
  have but1 := Heap.SameBut.update s.heap a (Obj.putSet es1 t1)
  refine wpAny_bind (wpAny_storeSet_of ho hd ?_ (fits_of_scanBound b1))
  by_cases full : (!wd && t1.tooFull) = true
  · rw [if_pos full]
    have q1 := relayAll_perm t1 es1 (SetTable.grown es1.size)
    have q2 := relayAll_fits t1 es1 (SetTable.grown es1.size)
    have q3 := relayAll_ris t1 es1 (SetTable.grown es1.size)
    have q4 := relayAll_led t1 es1 (SetTable.grown es1.size)
    generalize relayAll t1 es1 (SetTable.grown es1.size) = Y at q1 q2 q3 q4 ⊢
    obtain ⟨es2, t2, gv⟩ := Y
    dsimp only at q1 q2 q3 q4 ⊢
    have b2 : es2.size < scanBound := by rw [← Array.length_toList, q1.length_eq, Array.length_toList]; exact b1
    refine wpAny_bind (hg _ _ _ (wpAny_bind (wpAny_storeSet_of put1 rfl ?_ (fits_of_scanBound b2))))
    have put2 := L2.store_at (es' := es2) (t' := t2) put1 rfl
    have pm2 := (q1.map tx).trans pm
    exact wpAny_pure (fin _ _ (but1.trans (Heap.SameBut.update _ a _)) pm2 ⟨⟨_, es2, _, t2, put2, hx, rfl, fun e he => gd e (q1.mem_iff.mp he), rfl, q2, q3, le.imp id fun z => by rw [q4]; exact z⟩, pm2.nodup_iff.mpr ndM, by rw [pm2.length_eq]; exact fewM⟩)
  · rw [if_neg full]
    exact wpAny_pure (fin _ _ but1 pm ⟨⟨_, es1, _, t1, put1, hx, rfl, gd, rfl, fit, ri, le⟩, pm.nodup_iff.mpr ndM, by rw [pm.length_eq]; exact fewM⟩)
/-- a text is added -/
theorem SR.add {x : Str} {t : Tok} {Q : Bool → Shared → Prop} (R : SR w s.heap a L) (room : L.length + 1 < scanBound)
    (hQ : ∀ (k : Heap) (M : List Str) (b : Bool), Heap.SameBut a s.heap k → (x ∈ L → M = L) → (x ∉ L → M.Perm (x :: L)) → SR w k a M → Q b { s with heap := k }) : wpAny (model P w) A (setAddHashed a (.str x t) ((strKind P w).hash x)) Q E s := by
  obtain ⟨⟨o, es, ep, tb, ho, hx, hd, gd, eL, fit, ri, le⟩, nd, few⟩ := R
  have isx : (strKind P w).is x (.str x t) = true := by show Value.isStrOf x (.str x t) = true; simp [Value.isStrOf]
  have sca : (Value.str x t).scannable = true := rfl
  have els := good_els (P := P) gd
  have sz : es.size = L.length := by rw [← eL, List.length_map, Array.length_toList]
  unfold setAddHashed setAddHashedIn
  refine wpAny_holding (wpAny_bind (wpAny_setState_of ho hd fit ?_))
  dsimp only
  rw [byScan_of sca (by rw [sz]; exact few) els]
  simp only [↓reduceIte]
  unfold setAddByScan
  refine wpAny_bind (wpAny_bind (wpAny_rule (wpAny_bind (wpAny_setScan_of isx ho hd fit els ?_))))
  cases hf : List.findIdx? (fun e => (strKind P w).is x e.2) es.toList with
  | some j =>
    dsimp only
    obtain ⟨hj, pj, _⟩ := List.findIdx?_eq_some_iff_getElem.mp hf
    have hm : x ∈ L := by
      rw [← eL, ← (is_tx (P := P) (gd _ (List.getElem_mem hj)) x).mp pj]
      exact List.mem_map_of_mem (List.getElem_mem hj)
    exact wpAny_pure (wpAny_pure (hQ s.heap L _ (Heap.SameBut.refl a s.heap) (fun _ => rfl) (fun z => absurd hm z) ⟨⟨o, es, ep, tb, ho, hx, hd, gd, eL, fit, ri, le⟩, nd, few⟩))
  | none =>
    dsimp only
    have hm : x ∉ L := fun z => by
      rw [← eL] at z
      obtain ⟨e, he, e2⟩ := List.mem_map.mp z
      have c := List.findIdx?_eq_none_iff.mp hf e he
      rw [(is_tx (P := P) (gd e he) x).mpr e2] at c
      exact Bool.noConfusion c
    have way : ∀ (b : Bool) {z : Shared} {Q' : Unit → Shared → Prop}, Q' () z → wpAny (model P w) A (match b with | true => rule "set.scan.the-table-gave-way" | false => pure ()) Q' E z :=
      fun b z Q' q => by cases b <;> first | exact wpAny_pure q | exact wpAny_rule q
    have p1 := layNew_perm tb es ((strKind P w).hash x) (.str x t)
    have p2 := layNew_fits tb es ((strKind P w).hash x) (.str x t)
    have p3 := layNew_ris tb es ((strKind P w).hash x) (.str x t) ri
    have p4 := layNew_led tb es ((strKind P w).hash x) (.str x t)
    generalize layNew tb es ((strKind P w).hash x) (.str x t) = Y at p1 p2 p3 p4 ⊢
    obtain ⟨es1, t1, wd, gv⟩ := Y
    dsimp only at p1 p2 p3 p4 ⊢
    rw [Array.toList_push] at p1
    have p5 : es1.toList.Perm (((strKind P w).hash x, Value.str x t) :: es.toList) := p1.trans (List.perm_append_singleton _ _)
    have p6 : (es1.toList.map tx).Perm (x :: L) := by
      rw [← eL]
      exact p5.map tx
    have gd1 : ∀ e ∈ es1.toList, Good w e := fun e he => by
      rcases List.mem_cons.mp (p5.mem_iff.mp he) with z | z
      · exact ⟨x, t, z⟩
      · exact gd e z
    have nd1 : (x :: L).Nodup := List.nodup_cons.mpr ⟨hm, nd⟩
    have le1 : w.params.followText "set-order" = true ∨ t1.led = true := le.imp id fun z => by rw [p4]; exact z
    have fin : ∀ (b : Bool) (k : Heap) (M : List Str), Heap.SameBut a s.heap k → M.Perm (x :: L) → SR w k a M → Q b { s with heap := k } := fun b k M q1 q2 q3 => hQ k M b q1 (fun z => absurd z hm) (fun _ => q2) q3
    refine wpAny_bind (way _ ?_)
    split
    · refine wpAny_bind ?_
      rw [hashByValue_scannable 8 sca]
      refine wpAny_pure ?_
      refine add_end (M := x :: L) (fun b z Q' q => way b q) ho hx hd gd1 p6 nd1 room ?_ ?_ ?_ fun k M q1 q2 q3 => ?_
      · first | exact p2 | (split <;> first | exact p2 | exact SetTable.fits_plain_off p2)
      · first | exact p3 | (split <;> exact p3)
      · first | exact le1 | (split <;> exact le1)
      · dsimp only
        exact wpAny_pure (fin _ k M q1 q2 q3)
    · refine wpAny_bind (wpAny_pure ?_)
      simp only [↓reduceIte]
      refine add_end (M := x :: L) (fun b z Q' q => way b q) ho hx hd gd1 p6 nd1 room p2 p3 le1 fun k M q1 q2 q3 => ?_
      dsimp only
      exact wpAny_pure (fin _ k M q1 q2 q3)
end
end DL.St

/-! set(xs), xs a list of texts -/
namespace DL.St
open PySem PySem.Spec L2 PyProof.Rows
/-- what the first rows give -/
structure Got (xs : List Str) (L : List Str) : Prop where
  sub : ∀ x ∈ L, x ∈ xs
  all : ∀ x ∈ xs, x ∈ L
section
variable {P : Program} {w : World} {A : Around} {R : Result → Shared → Prop} {I : Addr} {fp wr : List Addr} {G : Array GenState → Array GenState → Prop} {n : Nat} {PV : Nat → Value → Prop} {St : Nat → Shared → Prop}
end
end DL.St

/-! set(xs) as a call -/
namespace DL.St
open PySem PySem.Spec L2 PyProof.Rows
section
variable {P : Program} {w : World} {A : Around} {E : Value → Shared → Prop} {s : Shared}
/-- a new set, empty -/
abbrev freshO (b : Bool) : Obj := { cls := .type "set", dict := none, data := .set #[] 0 (.fresh 0 0 b) }
end
end DL.St

/-! sorted(a set of texts) -/
namespace DL.St
open PySem PySem.Spec L2 PyProof.Rows PySem.W
section
variable {P : Program} {w : World} {A : Around} {E : Value → Shared → Prop} {s : Shared} {a : Addr} {L : List Str}
def leS (x y : Str) : Bool := decide (x.cps.toList ≤ y.cps.toList)
end
end DL.St

/-! sorted(set(xs)) as an expression -/
namespace DL.St
open PySem PySem.Spec L2 PyProof.Rows PySem.W
def SetO (w : World) (a : Addr) (L : List Str) : HO := .ext fun h => SR w h a L
section
variable {X : Cx}
def rSet (K : PySem.W.Frag) (w : World) : List V → Hp → VK → Prop := fun vs H Q => ∃ (l : Addr) (xs : List Str), vs = [.ref l] ∧ SqL K H l (xs.map V.str) ∧ xs.length + 1 < 4096 ∧ ∀ (p : Addr) (L : List Str), H p = none → Got xs L → L.Nodup → Q (.ref p) (upd H p (SetO w p L))
def rSort (w : World) : List V → Hp → VK → Prop := fun vs H Q => ∃ (a : Addr) (L : List Str), vs = [.ref a] ∧ H a = some (SetO w a L) ∧ ∀ (M : List Str) (p : Addr), M.Perm L → H p = none → Q (.ref p) (upd H p (.lst ((M.mergeSort leS).map V.str)))
end
end DL.St

namespace DL.St
open PySem PySem.Spec L2
/-- each once -/
def dedupS : List Str → List Str
  | [] => []
  | x :: xs => if x ∈ xs then dedupS xs else x :: dedupS xs
theorem mem_dedup {x : Str} : ∀ {xs : List Str}, x ∈ dedupS xs ↔ x ∈ xs
  | [] => Iff.rfl
  | y :: ys => by
    unfold dedupS
    split
    · rename_i h
      rw [mem_dedup, List.mem_cons]
      exact ⟨.inr, fun z => z.elim (fun e => by rw [e]; exact h) id⟩
    · rw [List.mem_cons, List.mem_cons, mem_dedup]
theorem nodup_dedup : ∀ xs : List Str, (dedupS xs).Nodup
  | [] => List.nodup_nil
  | y :: ys => by
    unfold dedupS
    split
    · exact nodup_dedup ys
    · rename_i h
      exact List.nodup_cons.mpr ⟨fun z => h (mem_dedup.mp z), nodup_dedup ys⟩
/-- ascending, each once -/
def srtS (xs : List Str) : List Str := (dedupS xs).mergeSort leS
theorem leS_trans (a b c : Str) (h1 : leS a b = true) (h2 : leS b c = true) : leS a c = true := decide_eq_true (List.le_trans (of_decide_eq_true h1) (of_decide_eq_true h2))
theorem leS_total (a b : Str) : (leS a b || leS b a) = true := by
  rcases List.le_total a.cps.toList b.cps.toList with h | h
  · simp [leS, h]
  · simp [leS, h]
theorem leS_anti {a b : Str} (h1 : leS a b = true) (h2 : leS b a = true) : a = b := PySem.W.str_of_cps (List.le_antisymm (of_decide_eq_true h1) (of_decide_eq_true h2))
end DL.St

/-! tables of sets of up to 2048 slots: each slot is met; a table laid anew -/
namespace DL.Tb
open PySem PySem.Spec L2 PyProof.Rows
/-- the sizes that come, less one -/
def Msk (m : Nat) : Prop := m = 7 ∨ m = 31 ∨ m = 127 ∨ m = 511 ∨ m = 2047 ∨ m = 8191
/-- the places of n steps as bits -/
def lap (m : Nat) : Nat → Nat → Nat → Nat
  | 0, _, acc => acc
  | n + 1, x, acc => lap m n ((x * 5 + 1) % (m + 1)) (acc ||| 2 ^ x)
theorem lcgI_next (m x : Nat) : ∀ b, lcgI m ((x * 5 + 1) % (m + 1)) b = lcgI m x (b + 1)
  | 0 => rfl
  | b + 1 => by
    have ih := lcgI_next m x b
    unfold lcgI
    rw [ih]
theorem lap_bit (m j : Nat) : ∀ (n x acc : Nat), (lap m n x acc).testBit j = true → acc.testBit j = true ∨ ∃ b, b < n ∧ lcgI m x b = j
  | 0, x, acc, h => Or.inl h
  | n + 1, x, acc, h => by
    rcases lap_bit m j n _ _ h with h | ⟨b, h1, h2⟩
    · rw [Nat.testBit_or, Bool.or_eq_true, Nat.testBit_two_pow, decide_eq_true_eq] at h
      rcases h with h | h
      · exact Or.inl h
      · exact Or.inr ⟨0, Nat.succ_pos n, h⟩
    · exact Or.inr ⟨b + 1, Nat.succ_lt_succ h1, by rw [← lcgI_next]; exact h2⟩
theorem lap7 : lap 7 8 0 0 = 2 ^ 8 - 1 := by decide +kernel
theorem lap31 : lap 31 32 0 0 = 2 ^ 32 - 1 := by decide +kernel
theorem lap127 : lap 127 128 0 0 = 2 ^ 128 - 1 := by decide +kernel
theorem lap511 : lap 511 512 0 0 = 2 ^ 512 - 1 := by decide +kernel
theorem lap2047 : lap 2047 2048 0 0 = 2 ^ 2048 - 1 := by decide +kernel
theorem lap8191 : lap 8191 8192 0 0 = 2 ^ 8192 - 1 := by decide +kernel
theorem lap_all {m : Nat} (hm : Msk m) : lap m (m + 1) 0 0 = 2 ^ (m + 1) - 1 := by
  rcases hm with rfl | rfl | rfl | rfl | rfl | rfl
  · exact lap7
  · exact lap31
  · exact lap127
  · exact lap511
  · exact lap2047
  · exact lap8191
/-- each place comes in a round from nought -/
theorem round_all {m j : Nat} (hm : Msk m) (hj : j ≤ m) : ∃ b, b ≤ m ∧ lcgI m 0 b = j := by
  have t : (lap m (m + 1) 0 0).testBit j = true := by
    rw [lap_all hm, Nat.testBit_two_pow_sub_one]
    exact decide_eq_true (Nat.lt_succ_of_le hj)
  rcases lap_bit m j (m + 1) 0 0 t with z | ⟨b, h1, h2⟩
  · rw [Nat.zero_testBit] at z; cases z
  · exact ⟨b, Nat.le_of_lt_succ h1, h2⟩
theorem lcgI_plus (m x a : Nat) : ∀ b, lcgI m (lcgI m x a) b = lcgI m x (a + b)
  | 0 => rfl
  | b + 1 => by
    have ih := lcgI_plus m x a b
    show (lcgI m (lcgI m x a) b * 5 + 1) % (m + 1) = (lcgI m x (a + b) * 5 + 1) % (m + 1)
    rw [ih]
/-- i -> 5 i + 1 takes no two places to one, so a round comes back -/
theorem round_back {m : Nat} (hm : Msk m) : lcgI m 0 (m + 1) = 0 := by
  -- the place ahead of nought
  obtain ⟨p, hp, e⟩ : ∃ p, p ≤ m ∧ (p * 5 + 1) % (m + 1) = 0 := by
    rcases hm with rfl | rfl | rfl | rfl | rfl | rfl
    · exact ⟨3, by decide, by decide⟩
    · exact ⟨19, by decide, by decide⟩
    · exact ⟨51, by decide, by decide⟩
    · exact ⟨307, by decide, by decide⟩
    · exact ⟨819, by decide, by decide⟩
    · exact ⟨4915, by decide, by decide⟩
  obtain ⟨b, hb, e2⟩ := round_all hm hp
  have z : lcgI m 0 (b + 1) = 0 := by
    show (lcgI m 0 b * 5 + 1) % (m + 1) = 0
    rw [e2, e]
  -- all places are met before the first return
  by_cases q : b = m
  · rw [q] at z; exact z
  · exfalso
    have per : ∀ k, lcgI m 0 k ∈ (List.range (b + 1)).map (lcgI m 0) := by
      intro k
      induction k using Nat.strongRecOn with
      | ind k ih =>
        by_cases hk : k < b + 1
        · exact List.mem_map.mpr ⟨k, List.mem_range.mpr hk, rfl⟩
        · have s : lcgI m 0 k = lcgI m 0 (k - (b + 1)) := by
            have := lcgI_plus m 0 (b + 1) (k - (b + 1))
            rw [z, show b + 1 + (k - (b + 1)) = k by omega] at this
            exact this.symm
          rw [s]
          exact ih _ (by omega)
    have := nat_nodup_len (List.range (m + 1)) ((List.range (b + 1)).map (lcgI m 0)) List.nodup_range fun j hj => by
      obtain ⟨c, _, e3⟩ := round_all hm (Nat.le_of_lt_succ (List.mem_range.mp hj))
      rw [← e3]; exact per c
    simp at this
    omega
/-- from anywhere each place is met -/
theorem meets {m i j : Nat} (hm : Msk m) (hi : i ≤ m) (hj : j ≤ m) : ∃ k, k ≤ m ∧ lcgI m i k = j := by
  obtain ⟨a, ha, ea⟩ := round_all hm hi
  obtain ⟨b, hb, eb⟩ := round_all hm hj
  by_cases c : a ≤ b
  · exact ⟨b - a, by omega, by rw [← ea, lcgI_plus, show a + (b - a) = b by omega, eb]⟩
  · refine ⟨m + 1 + b - a, by omega, ?_⟩
    have s := lcgI_plus m 0 (m + 1) b
    rw [round_back hm, eb] at s
    rw [← ea, lcgI_plus, show a + (m + 1 + b - a) = m + 1 + b by omega, ← s]
/-- a run begins at each place, soon enough -/
theorem runs {m j : Nat} (hm : Msk m) (g : Int) (hj : j ≤ m) : ∃ n, n ≤ m + 12 ∧ runI m (SetTable.bits g) n = j := by
  obtain ⟨k, h1, h2⟩ := meets hm (runI_le m (SetTable.bits g) 12) hj
  refine ⟨12 + k, by omega, ?_⟩
  rw [runI_tail (bits_lt g), h2]
theorem ways {m j : Nat} (hm : Msk m) (g : Int) (hj : j ≤ m) : ∃ k, k < 10 * SetTable.turns m ∧ way m g k = j := by
  obtain ⟨n, h1, h2⟩ := runs hm g hj
  obtain ⟨k, h3, h4⟩ := run_nth m (SetTable.bits g) n
  have tm : SetTable.turns m = m + 15 := rfl
  exact ⟨k, by omega, (congrArg SetTable.Probe.j h4).trans h2⟩
theorem way_in (m : Nat) (g : Int) (k : Nat) : way m g k ≤ m := by
  have h0 : SetTable.bits g % (m + 1) ≤ m := Nat.le_of_lt_succ (Nat.mod_lt _ (Nat.succ_pos m))
  obtain ⟨h1, h2, _⟩ := runEnd_bd h0
  have := nth_in (m := m) k (runAt m (SetTable.bits g % (m + 1)) (SetTable.bits g)) (show SetTable.bits g % (m + 1) + (SetTable.runEnd m (SetTable.bits g % (m + 1)) - SetTable.bits g % (m + 1)) ≤ m by omega)
  exact Nat.le_trans (Nat.le_add_right _ _) this
theorem odd {m : Nat} (hm : Msk m) : m % 2 = 1 := by rcases hm with rfl | rfl | rfl | rfl | rfl | rfl <;> rfl
/-- a table whose rows are found again from their hashes -/
structure Ok (t : SetTable) (gs : List Int) : Prop where
  up : Ris t.place.toList
  clean : t.dummies = #[]
  many : t.place.size = gs.length
  mask : Msk t.mask
  within : ∀ x ∈ t.place.toList, x ≤ t.mask
  back : ∀ (i : Nat) (g : Int) (j : Nat), gs[i]? = some g → t.place.toList[i]? = some j → ∃ k, way t.mask g k = j ∧ ∀ c, c < k → way t.mask g c ∈ t.place.toList
section
variable {t : SetTable} {gs : List Int} {g : Int}
theorem Ok.first (T : Ok t gs) (few : gs.length ≤ t.mask) (g : Int) : ∃ K, K < 10 * SetTable.turns t.mask ∧ way t.mask g K ∉ t.place.toList ∧ ∀ c, c < K → way t.mask g c ∈ t.place.toList := by
  have short : t.place.toList.length < t.mask + 1 := by
    have := T.many
    rw [Array.length_toList]; omega
  obtain ⟨j, h1, h2⟩ := st_missing t.place.toList (t.mask + 1) short
  obtain ⟨k, h3, h4⟩ := ways T.mask g (Nat.le_of_lt_succ h1)
  obtain ⟨K, k1, k2, k3⟩ := st_least (p := fun c => way t.mask g c ∉ t.place.toList) k (fun z => h2 (h4 ▸ z))
  exact ⟨K, by omega, k2, fun c hc => Classical.byContradiction (k3 c hc)⟩
theorem Ok.ahead (T : Ok t gs) {K i j : Nat} (free : way t.mask g K ∉ t.place.toList) (hi : gs[i]? = some g) (hj : t.place.toList[i]? = some j) : ∃ k, k < K ∧ way t.mask g k = j := by
  obtain ⟨k, h1, h2⟩ := T.back i g j hi hj
  refine ⟨k, Nat.lt_of_not_le fun le => ?_, h1⟩
  by_cases q : k = K
  · exact free (by rw [← q, h1]; exact List.mem_of_getElem? hj)
  · exact free (h2 K (by omega))
theorem Ok.put (T : Ok t gs) {K : Nat} (free : way t.mask g K ∉ t.place.toList) (full : ∀ c, c < K → way t.mask g c ∈ t.place.toList) :
    (t.put (way t.mask g K)).2 = SetTable.below t.place (way t.mask g K) ∧ SetTable.below t.place (way t.mask g K) ≤ gs.length ∧ Ok (t.put (way t.mask g K)).1 (gs.take (SetTable.below t.place (way t.mask g K)) ++ g :: gs.drop (SetTable.below t.place (way t.mask g K))) ∧
    (t.put (way t.mask g K)).1.mask = t.mask ∧ (t.put (way t.mask g K)).1.led = t.led ∧ (t.put (way t.mask g K)).1.fill = gs.length + 1 := by
  have jm := way_in t.mask g K
  generalize e : way t.mask g K = j at free jm
  have cut := (below_cut T.up j).1
  have lenP : t.place.toList.length = gs.length := by rw [Array.length_toList]; exact T.many
  have b1 : SetTable.below t.place j ≤ gs.length := by rw [← T.many]; exact cut
  have b2 : SetTable.below t.place j ≤ t.place.toList.length := by rw [lenP]; exact b1
  have pl := put_place t j
  have new : t.place[SetTable.below t.place j]? ≠ some j := fun z => free (List.mem_of_getElem? (i := SetTable.below t.place j) (by rw [Array.getElem?_toList]; exact z))
  have more : ∀ {x : Nat}, x ∈ t.place.toList → x ∈ (t.put j).1.place.toList := fun hx => by rw [pl]; exact mem_ins.mpr (Or.inr hx)
  have size1 : (t.put j).1.place.size = gs.length + 1 := by rw [← Array.length_toList, pl, len_ins _ b2, lenP]
  refine ⟨rfl, b1, { up := ris_insert T.up new, clean := put_dm T.clean j, many := by rw [size1, len_ins _ b1], mask := T.mask, within := fun x hx => ?_, back := fun i g' j' h1 h2 => ?_ }, rfl, rfl, ?_⟩
  · rcases mem_ins.mp (pl ▸ hx) with z | z
    · rw [z]; exact jm
    · exact T.within x z
  · have old : ∀ i', gs[i']? = some g' → t.place.toList[i']? = some j' → ∃ k, way t.mask g' k = j' ∧ ∀ c, c < k → way t.mask g' c ∈ (t.put j).1.place.toList := fun i' q1 q2 => by
      obtain ⟨k, k1, k2⟩ := T.back i' g' j' q1 q2
      exact ⟨k, k1, fun c hc => more (k2 c hc)⟩
    rw [tins_get _ b1] at h1
    rw [pl, tins_get _ b2] at h2
    by_cases c1 : i < SetTable.below t.place j
    · rw [if_pos c1] at h1 h2
      exact old i h1 h2
    · rw [if_neg c1] at h1 h2
      by_cases c2 : i = SetTable.below t.place j
      · rw [if_pos c2] at h1 h2
        cases h1
        cases h2
        exact ⟨K, e, fun c hc => more (full c hc)⟩
      · rw [if_neg c2] at h1 h2
        exact old (i - 1) h1 h2
  · have d0 := put_dm T.clean j
    unfold SetTable.fill
    rw [d0, size1]; rfl
end
/-! laid anew -/
section
variable {m : Nat} {owner : Array (Option Nat)} {done : List Int}
theorem free_at (hm : Msk m) (owner : Array (Option Nat)) (g : Int) {j : Nat} (hj : j ≤ m) (free : oAt owner j = none) :
    ∃ K, SetTable.layClean.free m owner (SetTable.turns m) (SetTable.bits g % (m + 1)) (SetTable.bits g) = some (way m g K) ∧ oAt owner (way m g K) = none ∧ ∀ c, c < K → oAt owner (way m g c) ≠ none := by
  obtain ⟨n, h1, h2⟩ := runs hm g hj
  have there : way m g (off m (SetTable.bits g % (m + 1)) (SetTable.bits g) n) = j := by
    have := congrArg SetTable.Probe.j (nth_off m n (SetTable.bits g % (m + 1)) (SetTable.bits g))
    rw [itL_run] at this
    exact this.trans h2
  obtain ⟨K, k1, k2, k3⟩ := st_least (p := fun c => oAt owner (way m g c) = none) (off m (SetTable.bits g % (m + 1)) (SetTable.bits g) n) (there.symm ▸ free)
  have tm : SetTable.turns m = m + 15 := rfl
  have no : ∀ c, c < K → (oAt owner (way m g c)).isNone = false := fun c hc => by
    cases q : oAt owner (way m g c) with
    | none => exact absurd q (k3 c hc)
    | some _ => rfl
  exact ⟨K, free_spec m owner (SetTable.turns m) n (SetTable.bits g % (m + 1)) (SetTable.bits g) K (by omega) k1 no (Option.isNone_iff_eq_none.mpr k2), k2, k3⟩
theorem own_step (hm : Msk m) (W : Own m done owner) (few : done.length ≤ m) (g : Int) :
    ∃ j, SetTable.layClean.free m owner (SetTable.turns m) (SetTable.bits g % (m + 1)) (SetTable.bits g) = some j ∧ Own m (done ++ [g]) (owner.setIfInBounds j (some done.length)) := by
  obtain ⟨ps, p1, p2⟩ := W.ps
  obtain ⟨j0, q1, q2⟩ := st_missing ps (m + 1) (by omega)
  have e0 : oAt owner j0 = none := Classical.byContradiction fun z => q2 (p2 j0 (by omega) z)
  obtain ⟨K, a1, a2, a3⟩ := free_at hm owner g (j := j0) (by omega) e0
  have le := way_in m g K
  have lt : way m g K < owner.size := by have := W.sz; omega
  have self := oAt_set_self (some done.length) lt
  have stay : ∀ {i : Nat}, oAt owner i ≠ none → oAt (owner.setIfInBounds (way m g K) (some done.length)) i ≠ none := fun {i} hi => by
    by_cases c : i = way m g K
    · rw [c, self]; exact Option.some_ne_none _
    · rw [oAt_set_ne (some done.length) c]; exact hi
  have other : ∀ {i : Nat}, i ≠ way m g K → oAt (owner.setIfInBounds (way m g K) (some done.length)) i = oAt owner i := fun c => oAt_set_ne (some done.length) c
  refine ⟨way m g K, a1, { sz := by simpa using W.sz, at_ := fun j k hj h => ?_, all := fun k hk => ?_, ps := ⟨way m g K :: ps, by simp [p1], fun j hj h => ?_⟩ }⟩
  · by_cases c : j = way m g K
    · subst c
      rw [self] at h
      cases h
      exact ⟨g, K, by simp, rfl, fun c hc => stay (a3 c hc)⟩
    · rw [other c] at h
      obtain ⟨g', K', b1, b2, b3⟩ := W.at_ j k hj h
      have hk := (List.getElem?_eq_some_iff.mp b1).1
      exact ⟨g', K', by rw [List.getElem?_append_left hk]; exact b1, b2, fun c hc => stay (b3 c hc)⟩
  · by_cases c : k < done.length
    · obtain ⟨j, hj, h⟩ := W.all k c
      refine ⟨j, hj, ?_⟩
      rw [other fun z => by rw [z, a2] at h; cases h]
      exact h
    · have : k = done.length := by simp at hk; omega
      subst this
      exact ⟨_, le, self⟩
  · by_cases c : j = way m g K
    · rw [c]; exact List.mem_cons_self
    · rw [other c] at h
      exact List.mem_cons_of_mem _ (p2 j hj h)
theorem own_fold (hm : Msk m) : ∀ (rest done : List Int) (owner : Array (Option Nat)), Own m done owner → done.length + rest.length ≤ m → ∃ o', rest.foldl (stepF m) (some (owner, done.length)) = some (o', (done ++ rest).length) ∧ Own m (done ++ rest) o'
  | [], done, owner, W, _ => ⟨owner, by simp, by simpa using W⟩
  | g :: rest, done, owner, W, few => by
    simp only [List.length_cons] at few
    obtain ⟨j, h1, h2⟩ := own_step hm W (by omega) g
    obtain ⟨o', h3, h4⟩ := own_fold hm rest (done ++ [g]) _ h2 (by simp; omega)
    refine ⟨o', ?_, by simpa using h4⟩
    rw [List.foldl_cons, stepF_some h1]
    simpa using h3
theorem laid (t : SetTable) {gs : Array Int} {wanted M : Nat} (hw : SetTable.sizeAbove wanted - 1 = M) (hM : Msk M) (few : gs.size ≤ M) :
    ∃ t' order, t.relaid gs wanted = some (t', order) ∧ order.toList.Perm (List.range gs.size) ∧ Ok t' (order.toList.map fun i => gs.getD i 0) ∧ t'.mask = M ∧ t'.led = t.led := by
  obtain ⟨owner, h1, W⟩ := own_fold hM gs.toList [] (Array.replicate (M + 1) none) (Own.init M) (by simpa using few)
  rw [List.nil_append] at h1 W
  have lay : SetTable.layClean M gs = some owner := by
    rw [layClean_eq]
    exact congrArg (Option.map (·.1)) h1
  have made : t.relaid gs wanted = some (tabOf t M owner, ((liveOf M owner).map (·.2)).toArray) := by
    rw [relaid_eq, hw, lay]; rfl
  obtain ⟨r1, r2⟩ := ris_live (fun j => owner.getD j none) (List.range (M + 1)) List.pairwise_lt_range
  have r1 : Ris ((liveOf M owner).map (·.1)) := r1
  have r2 : ∀ x ∈ (liveOf M owner).map (·.1), x ∈ List.range (M + 1) := r2
  obtain ⟨ps, p1, p2⟩ := W.ps
  have up := nat_nodup_len ((liveOf M owner).map (·.1)) ps (List.nodup_iff_pairwise_ne.mpr (r1.imp fun z => Nat.ne_of_lt z)) fun x hx => by
    obtain ⟨⟨y, k⟩, hq, rfl⟩ := List.mem_map.mp hx
    obtain ⟨b1, b2⟩ := (mem_live W.sz).mp hq
    exact p2 y b1 (by rw [b2]; exact Option.some_ne_none k)
  have down := nat_nodup_len (List.range gs.size) ((liveOf M owner).map (·.2)) List.nodup_range fun k hk => by
    obtain ⟨j, b1, b2⟩ := W.all k (List.mem_range.mp hk)
    exact List.mem_map.mpr ⟨(j, k), (mem_live W.sz).mpr ⟨b1, b2⟩, rfl⟩
  simp only [List.length_map, List.length_range, p1] at up down
  have len : (liveOf M owner).length = gs.size := Nat.le_antisymm up down
  refine ⟨_, _, made, perm_range gs.size _ (by simpa using len) (fun k hk => ?_), { up := r1, clean := rfl, many := by show ((liveOf M owner).map (·.1)).toArray.size = _; simp, mask := hM, within := fun x hx => Nat.le_of_lt_succ (List.mem_range.mp (r2 x hx)), back := fun i g j h2 h3 => ?_ }, rfl, rfl⟩
  · obtain ⟨j, b1, b2⟩ := W.all k (by simpa using hk)
    exact List.mem_map.mpr ⟨(j, k), (mem_live W.sz).mpr ⟨b1, b2⟩, rfl⟩
  · have h2 : (((liveOf M owner).map (·.2)).map fun i => gs.getD i 0)[i]? = some g := h2
    have h3 : ((liveOf M owner).map (·.1))[i]? = some j := h3
    rw [List.getElem?_map] at h3
    obtain ⟨⟨y, k⟩, hq, rfl⟩ := Option.map_eq_some_iff.mp h3
    rw [List.getElem?_map, List.getElem?_map, hq] at h2
    have h2 : gs.getD k 0 = g := Option.some.inj h2
    obtain ⟨b1, b2⟩ := (mem_live W.sz).mp (List.mem_of_getElem? hq)
    obtain ⟨g', K, c1, c2, c3⟩ := W.at_ y k b1 b2
    have e : g' = g := by
      rw [← h2, Array.getD_eq_getD_getElem?, ← Array.getElem?_toList, c1]; rfl
    subst e
    refine ⟨K, c2, fun c hc => ?_⟩
    cases q : oAt owner (way M g' c) with
    | none => exact absurd q (c3 c hc)
    | some k' => exact List.mem_map.mpr ⟨(way M g' c, k'), (mem_live W.sz).mpr ⟨way_in M g' c, q⟩, rfl⟩
end
theorem grow4 : SetTable.sizeAbove (SetTable.grown 5) = 32 ∧ SetTable.sizeAbove (SetTable.grown 19) = 128 ∧ SetTable.sizeAbove (SetTable.grown 77) = 512 ∧ SetTable.sizeAbove (SetTable.grown 307) = 2048 ∧ SetTable.sizeAbove (SetTable.grown 1229) = 8192 := by decide +kernel
end DL.Tb

/-! sets of rows of texts (tuples whose items are texts): adding -/
namespace DL.Rs
open PySem PySem.Spec L2 PyProof.Rows
abbrev Row := List Str
section
variable {P : Program} {w : World} {A : Around} {E : Value → Shared → Prop} {s : Shared} {h h' : Heap}
/-- the row's hash; the row stands at b -/
abbrev hsh (P : Program) (w : World) (r : Row) : Int := tupleKeyHash (strKind P w) r
abbrev RowAt (P : Program) (w : World) (h : Heap) (r : Row) (b : Addr) : Prop := IsTupleKey (strKind P w) h r b
theorem row_items {r : Row} {vs : List Value} (i : ItemsAre (strKind P w) r vs) : ∀ v ∈ vs, ∃ x t, v = Value.str x t := by
  induction i with
  | nil => exact fun v hv => (by cases hv)
  | @cons x u r us e _ ih =>
    intro v hv
    rcases List.mem_cons.mp hv with q | q
    · obtain ⟨t, e2⟩ := Value.isStrOf_shape e
      exact ⟨x, t, q.trans e2⟩
    · exact ih v q
theorem row_same {r : Row} {a b : Addr} {o : Obj} {es : Array (Int × Value)} {ep : Nat} {t : SetTable} (i : RowAt P w h r b) (ho : h.get? a = some o) (hd : o.data = .set es ep t) (sb : Heap.SameBut a h h') : RowAt P w h' r b := by
  obtain ⟨u, items, n, hu, hc, du, q⟩ := i
  refine ⟨u, items, n, (sb.2 b fun z => ?_).trans hu, hc, du, q⟩
  rw [z, ho] at hu
  cases hu
  rw [hd] at du
  cases du
/-- a walk over texts that asks each for nothing -/
theorem each_str {items : Array Value} {δ : Type} {f : Value → Option δ × PUnit → Sem (ForInStep (Option δ × PUnit))} {Q : Option δ × PUnit → Shared → Prop} (all : ∀ v ∈ items.toList, ∃ x t, v = Value.str x t)
    (turn : ∀ x t, f (.str x t) (none, ⟨⟩) = pure (.yield (none, ⟨⟩))) (fin : Q (none, ⟨⟩) s) : wpAny (model P w) A (forIn items (none, ⟨⟩) f) Q E s := by
  rw [← Array.forIn_toList]
  refine wpAny_forIn_list _ (fun rest r z => r = (none, ⟨⟩) ∧ z = s ∧ ∀ v ∈ rest, ∃ x t, v = Value.str x t) _ ?_ ?_ _ _ ⟨rfl, rfl, all⟩
  · rintro v rest r z ⟨rfl, rfl, q⟩
    obtain ⟨x, t, rfl⟩ := q v List.mem_cons_self
    rw [turn]
    exact wpAny_pure ⟨rfl, rfl, fun u hu => q u (List.mem_cons_of_mem _ hu)⟩
  · rintro r z ⟨rfl, rfl, _⟩
    exact fin
theorem cls_str (n : Nat) (x : Str) (t : Tok) : ofAClassStatement n (.str x t) = pure false := by cases n <;> rfl
theorem val_str (n : Nat) (x : Str) (t : Tok) : hashByValue n (.str x t) = pure false := hashByValue_scannable n rfl
theorem row_cls {r : Row} {b : Addr} {Q : Bool → Shared → Prop} (i : RowAt P w s.heap r b) (q : Q false s) : wpAny (model P w) A (ofAClassStatement 8 (.ref b)) Q E s := by
  have ty := i.typeIs
  obtain ⟨o, items, n, ho, _, hd, hi⟩ := i
  unfold ofAClassStatement
  refine wpAny_bind (wpAny_typeOf ty ?_)
  dsimp only
  simp only [show (("tuple" : String) == "tuple") = true from by decide, if_true, Bool.not_true, Bool.false_eq_true, if_false]
  try refine wpAny_bind (wpAny_pure ?_)
  try simp only [Bool.not_true, Bool.false_eq_true, if_false]
  refine wpAny_bind (m := seqItems? (.ref b)) (wpAny_seqItems ho hd ?_)
  dsimp only
  refine wpAny_bind (each_str (row_items hi) (fun x t => ?_) ?_)
  · rw [cls_str]; rfl
  · exact wpAny_pure q
theorem row_val {r : Row} {b : Addr} {Q : Bool → Shared → Prop} (i : RowAt P w s.heap r b) (q : ∀ c, Q c s) : wpAny (model P w) A (hashByValue 8 (.ref b)) Q E s := by
  have ty := i.typeIs
  obtain ⟨o, items, n, ho, _, hd, hi⟩ := i
  unfold hashByValue
  refine wpAny_bind (wpAny_specialOf ty F.slot_tuple_hash.lookup ?_)
  refine wpAny_bind (m := seqItems? (.ref b)) (wpAny_seqItems ho hd ?_)
  refine wpAny_bind ?_
  show wpAny _ _ (forIn items _ _) _ _ s
  rw [← Array.forIn_toList]
  refine wpAny_forIn_list _ (fun rest u z => z = s ∧ ∀ v ∈ rest, ∃ x t, v = Value.str x t) _ ?_ ?_ _ _ ⟨rfl, row_items hi⟩
  · rintro v rest u z ⟨rfl, all⟩
    obtain ⟨x, t, rfl⟩ := all v List.mem_cons_self
    rw [val_str]
    refine wpAny_bind (wpAny_pure ?_)
    exact wpAny_pure (wpAny_pure (q _))
  · rintro ⟨u1, u2⟩ z ⟨rfl, _⟩
    cases u1 with
    | none => exact wpAny_pure (q _)
    | some c => exact wpAny_pure (q _)
/-- nobody sees the search -/
theorem row_unseen {r : Row} {b : Addr} {Q : Bool → Shared → Prop} (i : RowAt P w s.heap r b) {ys : List Value} (hy : ∀ y ∈ ys, ∃ k c, y = Value.ref c ∧ RowAt P w s.heap k c) (q : Q false s) : wpAny (model P w) A (searchCouldBeSeen (.ref b) ys) Q E s := by
  unfold searchCouldBeSeen
  refine wpAny_bind ?_
  refine wpAny_forIn_list _ (fun rest u z => u.1 = none ∧ z = s ∧ ∀ y ∈ rest, ∃ k c, y = Value.ref c ∧ RowAt P w s.heap k c) _ ?_ ?_ _ _ ⟨rfl, rfl, hy⟩
  · rintro v rest u z ⟨hu, rfl, all⟩
    obtain ⟨k, c, rfl, hc⟩ := all v List.mem_cons_self
    have more : ∀ y ∈ rest, ∃ k c, y = Value.ref c ∧ RowAt P w z.heap k c := fun y hy => all y (List.mem_cons_of_mem _ hy)
    dsimp only
    by_cases same : (b == c || (carriedByValue (.ref b) && carriedByValue (.ref c))) = true
    · exact wp_if_pos same (wpAny_pure ⟨rfl, rfl, more⟩)
    · refine wp_if_neg same (wpAny_bind (wpAny_eqIsQuiet_tuple i ?_))
      simp only [Bool.not_true, Bool.false_eq_true, if_false]
      refine wpAny_bind (wpAny_eqIsQuiet_tuple hc ?_)
      simp only [Bool.not_true, Bool.false_eq_true, if_false]
      refine wpAny_bind (row_cls i ?_)
      simp only [Bool.false_eq_true, if_false]
      refine wpAny_bind (row_cls hc ?_)
      simp only [Bool.false_eq_true, if_false]
      exact wpAny_pure ⟨rfl, rfl, more⟩
  · rintro ⟨u1, u2⟩ z ⟨hu, rfl, _⟩
    simp only at hu
    subst hu
    exact wpAny_pure q
/-! the set's rows -/
abbrev Ad := Addr × Row
def ents (P : Program) (w : World) (L : List Ad) : List (Int × Value) := L.map fun p => (hsh P w p.2, Value.ref p.1)
def hss (P : Program) (w : World) (L : List Ad) : List Int := L.map fun p => hsh P w p.2
/-- most members (the table of 2048 slots is not left) -/
def cap : Nat := 4000
structure SetAt (P : Program) (w : World) (h : Heap) (a : Addr) (L : List Ad) (es : Array (Int × Value)) (ep : Nat) (t : SetTable) : Prop where
  at_ : ∃ o, h.get? a = some o ∧ o.ExactSet ∧ o.data = .set es ep t
  ent : es.toList = ents P w L
  tab : Tb.Ok t (hss P w L)
  nd : (L.map (·.2)).Nodup
  row : ∀ p ∈ L, RowAt P w h p.2 p.1
  led : w.params.followText "set-order" = true ∨ t.led = true
  room : L.length * 5 < t.mask * 3
  few : L.length ≤ cap
variable {a : Addr} {L : List Ad} {es : Array (Int × Value)} {ep : Nat} {t : SetTable}
theorem ents_len {l : List (Int × Value)} (e : l = ents P w L) : l.length = L.length := by rw [e]; unfold ents; rw [List.length_map]
theorem SetAt.len (R : SetAt P w h a L es ep t) : es.size = L.length := by rw [← Array.length_toList]; exact ents_len R.ent
theorem SetAt.plc (R : SetAt P w h a L es ep t) : t.place.size = L.length := by
  have := R.tab.many
  unfold hss at this
  rwa [List.length_map] at this
theorem fits_of {n : Nat} (h1 : t.place.size = n) (h2 : t.dummies = #[]) (h3 : n ≤ t.mask) : t.fits n = true := by
  unfold SetTable.fits SetTable.fill
  rw [h2, Bool.and_eq_true, beq_iff_eq, decide_eq_true_eq]
  exact ⟨h1, by show t.place.size + 0 ≤ _; omega⟩
theorem SetAt.fit (R : SetAt P w h a L es ep t) : t.fits es.size = true := fits_of (by rw [R.plc, R.len]) R.tab.clean (by have := R.room; rw [R.len]; omega)
theorem SetAt.nth (R : SetAt P w h a L es ep t) {i : Nat} {p : Ad} (q : L[i]? = some p) : es[i]? = some (hsh P w p.2, Value.ref p.1) := by
  rw [← Array.getElem?_toList, R.ent]
  unfold ents
  rw [List.getElem?_map, q]; rfl
theorem SetAt.hat (R : SetAt P w h a L es ep t) {i : Nat} {p : Ad} (q : L[i]? = some p) : (es[i]?.map (·.1)).getD 0 = hsh P w p.2 := by rw [R.nth q]; rfl
theorem SetAt.firm (R : SetAt P w h a L es ep t) : ¬ t.gaveWay = true := by
  unfold SetTable.gaveWay
  rw [Tb.odd R.tab.mask]; decide
/-- where the row's way begins -/
abbrev begin_ (t : SetTable) (g : Int) : SetTable.Probe := runAt t.mask (SetTable.bits g % (t.mask + 1)) (SetTable.bits g)
theorem no_dummy (m : Nat) : ∀ (n : Nat) (p : SetTable.Probe), p.dummy = none → (nth m p n).dummy = none
  | 0, _, e => e
  | n + 1, p, e => no_dummy m n (adv m p) (by unfold adv; split <;> exact e)
end
end DL.Rs

/-! sets of rows of texts: the search, a row more -/
namespace DL.Rs
open PySem PySem.Spec L2 PyProof.Rows
section
variable {P : Program} {w : World} {A : Around} {E : Value → Shared → Prop} {s : Shared} {a : Addr} {L : List Ad} {es : Array (Int × Value)} {ep : Nat} {t : SetTable}
/-- from step c of the way; K: its first empty slot -/
theorem seek (R : SetAt P w s.heap a L es ep t) {x : Addr} {r : Row} (hx : RowAt P w s.heap r x) (hu : A.units < cLine) {g : Int} (hg : g = hsh P w r) {K : Nat} (hK : K < 10 * SetTable.turns t.mask) (free : way t.mask g K ∉ t.place.toList)
    (full : ∀ c, c < K → way t.mask g c ∈ t.place.toList) {Q : SetFound → Shared → Prop} (yes : r ∈ L.map (·.2) → Q (.there none) s) (no : r ∉ L.map (·.2) → Q (.free (way t.mask g K) false) s) :
    ∀ (f c : Nat) (st : Option SetTable.Probe), st.getD (t.probeStart g) = nth t.mask (begin_ t g) c → c ≤ K → K - c < f → (∀ (i : Nat) (p : Ad), L[i]? = some p → p.2 = r → ∃ d, c ≤ d ∧ d < K ∧ t.place.toList[i]? = some (way t.mask g d)) →
      wpAny (model P w) A (setSearchFrom a (.ref x) g true f st) Q E s := by
  intro f
  induction f with
  | zero => exact fun c st _ _ z _ => absurd z (Nat.not_lt_zero _)
  | succ f ih =>
    intro c st at_ cK fu rest
    obtain ⟨o, ho, hex, hd⟩ := R.at_
    have step : ∀ q, nth t.mask (nth t.mask (begin_ t g) c) q = nth t.mask (begin_ t g) (c + q) := fun q => (nth_add t.mask c _ q).symm
    have wj : ∀ q, (nth t.mask (nth t.mask (begin_ t g) c) q).j = way t.mask g (c + q) := fun q => congrArg SetTable.Probe.j (step q)
    have eK : c + (K - c) = K := by omega
    have look := go_spec t R.tab.up R.tab.clean (fun i => (es[i]?.map (·.1)).getD 0) g (10 * SetTable.turns t.mask) (K - c) (nth t.mask (begin_ t g) c) (no_dummy t.mask c _ rfl) (by omega)
      (fun q hq => by rw [wj]; exact full _ (by omega)) (by rw [wj, eK]; exact free)
    -- a row that is r stands at a slot that is not passed yet
    have ahead : ∀ {i : Nat} {p : Ad} {d : Nat}, L[i]? = some p → p.2 = r → c ≤ d → t.place.toList[i]? = some (way t.mask g d) → (∀ e, t.place.toList[i]? = some ((nth t.mask (nth t.mask (begin_ t g) c) e).j) → e = d - c → (fun i => (es[i]?.map (·.1)).getD 0) i = g → False) → False := by
      intro i p d hp hr cd hd2 bad
      refine bad (d - c) ?_ rfl ((R.hat hp).trans (by rw [hr, hg]))
      rw [wj, show c + (d - c) = d by omega]; exact hd2
    rw [setSearchFrom_succ]
    refine wpAny_bind (wpAny_setState_of ho hd R.fit ?_)
    dsimp only
    refine wp_if_neg R.firm ?_
    try refine wpAny_bind (wpAny_pure ?_)
    rcases look with ⟨q, i, hq, hi, _, none_before, pr⟩ | ⟨nowhere, pr⟩
    · -- some row with this hash
      have pr2 : t.probe (fun i => (es[i]?.map (·.1)).getD 0) g (st.getD (t.probeStart g)) = some (.candidate (way t.mask g (c + q)) i (nth t.mask (begin_ t g) (c + (q + 1)))) := by
        rw [at_, ← wj, ← step]; exact pr
      rw [wj] at hi
      have il : i < L.length := by
        have := (List.getElem?_eq_some_iff.mp hi).1
        rw [Array.length_toList, R.plc] at this
        exact this
      obtain ⟨p, hp⟩ : ∃ p, L[i]? = some p := ⟨_, List.getElem?_eq_getElem il⟩
      have pin := List.mem_of_getElem? hp
      have live := slot_live R.tab.up hi
      rw [pr2]
      dsimp only
      have behind : wpAny (model P w) A (searchRest a (.ref x) g true f es t (way t.mask g (c + q)) i (nth t.mask (begin_ t g) (c + (q + 1)))) Q E s := by
        unfold searchRest
        rw [R.nth hp]
        dsimp only
        refine wpAny_bind (wpAny_holding (wpAny_eqBool_tuple hu (R.row p pin) hx ?_))
        refine wpAny_bind (wpAny_setState_of ho hd R.fit ?_)
        dsimp only
        by_cases er : p.2 = r
        · exact wp_if_pos (by simp [er]) (wpAny_pure (yes (List.mem_map.mpr ⟨p, pin, er⟩)))
        · refine wp_if_neg (by simp [er]) ?_
          try refine wpAny_bind (wpAny_pure ?_)
          rw [sameMem]
          dsimp only
          simp only [if_true, live, R.nth hp]
          refine wpAny_bind (wpAny_isSame_ref_self (wpAny_bind (wpAny_pure ?_)))
          simp only [if_true]
          refine wp_if_neg (by simp [er]) (ih (c + (q + 1)) _ rfl (by omega) (by omega) fun i2 p2 hp2 hr2 => ?_)
          obtain ⟨d, d1, d2, d3⟩ := rest i2 p2 hp2 hr2
          refine ⟨d, ?_, d2, d3⟩
          by_cases lt : d < c + q
          · exact (ahead hp2 hr2 d1 d3 fun e he ee hh => none_before e i2 (by omega) he hh).elim
          · by_cases eq : d = c + q
            · subst eq
              have l2 := slot_live R.tab.up d3
              rw [live] at l2
              injection l2 with l2
              subst l2
              rw [hp] at hp2
              cases hp2
              exact absurd hr2 er
            · omega
      by_cases ld : t.led = true
      · refine wp_if_neg (by simp [ld]) ?_
        try refine wpAny_bind (wpAny_pure ?_)
        exact behind
      · refine wp_if_pos (by simp [ld]) (wpAny_bind (row_unseen hx (fun y hy => ?_) ?_))
        · obtain ⟨e, he, rfl⟩ := List.mem_map.mp hy
          have he : e ∈ es.toList := by
            have : e ∈ es ∧ e.1 = g := by simpa using he
            simpa using this.1
          rw [R.ent] at he
          obtain ⟨p2, k1, rfl⟩ := List.mem_map.mp he
          exact ⟨p2.2, p2.1, rfl, R.row p2 k1⟩
        · refine wp_if_neg (by decide) ?_
          try refine wpAny_bind (wpAny_pure ?_)
          exact behind
    · -- the way ends
      have pr2 : t.probe (fun i => (es[i]?.map (·.1)).getD 0) g (st.getD (t.probeStart g)) = some (.empty (way t.mask g K) none) := by
        rw [at_, show way t.mask g K = (nth t.mask (nth t.mask (begin_ t g) c) (K - c)).j from by rw [wj, eK]]
        exact pr
      rw [pr2]
      dsimp only
      refine wpAny_pure (no fun z => ?_)
      obtain ⟨p, pin, er⟩ := List.mem_map.mp z
      obtain ⟨i, hi, e⟩ := List.getElem_of_mem pin
      have hp : L[i]? = some p := by rw [List.getElem?_eq_getElem hi, e]
      obtain ⟨d, d1, d2, d3⟩ := rest i p hp er
      exact ahead hp er d1 d3 fun e he ee hh => nowhere e i (by omega) he hh
theorem find (R : SetAt P w s.heap a L es ep t) {x : Addr} {r : Row} (hx : RowAt P w s.heap r x) (hu : A.units < cLine) {Q : SetFound → Shared → Prop} (yes : r ∈ L.map (·.2) → Q (.there none) s)
    (no : ∀ K, r ∉ L.map (·.2) → way t.mask (hsh P w r) K ∉ t.place.toList → (∀ c, c < K → way t.mask (hsh P w r) c ∈ t.place.toList) → Q (.free (way t.mask (hsh P w r) K) false) s) : wpAny (model P w) A (setSearch a (.ref x) (hsh P w r) true) Q E s := by
  have room := R.room
  obtain ⟨K, k1, k2, k3⟩ := R.tab.first (by unfold hss; rw [List.length_map]; omega) (hsh P w r)
  have most : K < 100000 := by
    have : SetTable.turns t.mask ≤ 8206 := by
      unfold SetTable.turns
      rcases R.tab.mask with e | e | e | e | e | e <;> omega
    omega
  unfold setSearch
  refine seek R hx hu rfl k1 k2 k3 yes (fun q => no K q k2 k3) 100000 0 none rfl (Nat.zero_le _) (by omega) fun i p hp er => ?_
  have hh : (hss P w L)[i]? = some (hsh P w r) := by unfold hss; rw [List.getElem?_map, hp, ← er]; rfl
  have il : i < t.place.toList.length := by
    rw [Array.length_toList, R.plc]
    exact (List.getElem?_eq_some_iff.mp hp).1
  obtain ⟨d, d1, d2⟩ := R.tab.ahead k2 hh (List.getElem?_eq_getElem il)
  exact ⟨d, Nat.zero_le _, d1, by rw [List.getElem?_eq_getElem il, d2]⟩
/-- entries in another order -/
theorem shuffle {order : Array Nat} (ent : es.toList = ents P w L) (pm : order.toList.Perm (List.range L.length)) :
    ∃ M, (order.filterMap (es[·]?)).toList = ents P w M ∧ M.Perm L ∧ hss P w M = order.toList.map fun i => (es.map (·.1)).getD i 0 := by
  have at_ : ∀ i (h : i < L.length), es[i]? = some (hsh P w (L[i]).2, Value.ref (L[i]).1) := fun i h => by
    rw [← Array.getElem?_toList, ent]
    unfold ents
    rw [List.getElem?_map, List.getElem?_eq_getElem h]; rfl
  have sel : ∀ l : List Nat, (∀ i ∈ l, i < L.length) → l.filterMap (fun i => es[i]?) = ents P w (l.filterMap fun i => L[i]?) ∧ hss P w (l.filterMap fun i => L[i]?) = l.map fun i => (es.map (·.1)).getD i 0 := by
    intro l
    induction l with
    | nil => exact fun _ => ⟨rfl, rfl⟩
    | cons i l ih =>
      intro hl
      have hi := hl i List.mem_cons_self
      obtain ⟨e1, e2⟩ := ih fun j hj => hl j (List.mem_cons_of_mem _ hj)
      rw [List.filterMap_cons_some (at_ i hi), List.filterMap_cons_some (List.getElem?_eq_getElem hi), e1]
      refine ⟨rfl, ?_⟩
      have e3 : (es.map (·.1)).getD i 0 = hsh P w (L[i]).2 := by
        rw [Array.getD_eq_getD_getElem?, Array.getElem?_map, at_ i hi]; rfl
      rw [List.map_cons, e3, ← e2]; rfl
  obtain ⟨e1, e2⟩ := sel order.toList fun i hi => List.mem_range.mp (pm.mem_iff.mp hi)
  refine ⟨_, by rw [Array.toList_filterMap]; exact e1, ?_, e2⟩
  have all : (List.range L.length).filterMap (fun i => L[i]?) = L := by
    apply List.ext_getElem?
    intro j
    have key : ∀ n, n ≤ L.length → (List.range n).filterMap (fun i => L[i]?) = L.take n := by
      intro n
      induction n with
      | zero => exact fun _ => rfl
      | succ n ih => exact fun hn => by rw [List.range_succ, List.filterMap_append, ih (by omega), List.filterMap_cons_some (List.getElem?_eq_getElem hn), List.take_succ, List.getElem?_eq_getElem hn]; rfl
    rw [key _ (Nat.le_refl _), List.take_length]
  have := pm.filterMap fun i => L[i]?
  rw [all] at this
  exact this
/-- laid again in a larger table -/
theorem relay {o : Obj} (ho : s.heap.get? a = some o) (hex : o.ExactSet) (hd : o.data = .set es ep t) (ent : es.toList = ents P w L) (plc : t.place.size = es.size) (dm : t.dummies = #[]) (fl : es.size ≤ t.mask) (nd : (L.map (·.2)).Nodup)
    (row : ∀ p ∈ L, RowAt P w s.heap p.2 p.1) (led : w.params.followText "set-order" = true ∨ t.led = true) (few : L.length ≤ cap) {wanted M : Nat} (hw : SetTable.sizeAbove wanted - 1 = M) (ok : Tb.Msk M) (hw2 : SetTable.sizeAbove wanted ≤ 8192) (room : L.length * 5 < M * 3) {Q : Unit → Shared → Prop}
    (fin : ∀ k N es2 ep2 t2, Heap.SameBut a s.heap k → SetAt P w k a N es2 ep2 t2 → N.Perm L → Q () { s with heap := k }) : wpAny (model P w) A (setRelay a wanted) Q E s := by
  have n1 : es.size = L.length := by rw [← Array.length_toList]; exact ents_len ent
  obtain ⟨t2, order, e, pm, T, m2, l2⟩ := Tb.laid t (gs := es.map (·.1)) hw ok (by rw [Array.size_map, n1]; omega)
  rw [Array.size_map, n1] at pm
  obtain ⟨N, x1, x2, x3⟩ := shuffle ent pm
  rw [← x3] at T
  have n2 : (order.filterMap (es[·]?)).size = L.length := by rw [← Array.length_toList, ents_len x1, x2.length_eq]
  have lim : cap ≤ 4000 := by decide
  rw [setRelay_eq]
  refine wpAny_bind (wpAny_setState_of ho hd (fits_of plc dm fl) ?_)
  dsimp only
  refine wp_if_neg (by rw [sizeLine_eq]; omega) ?_
  try refine wpAny_bind (wpAny_pure ?_)
  rw [e]
  dsimp only
  refine wpAny_bind (wp_if_neg (by rw [n2, n1]; simp) ?_)
  try refine wpAny_bind (wpAny_pure ?_)
  refine wpAny_pure ?_
  dsimp only
  refine wpAny_storeSet_of ho hd ?_ (by rw [n2, sizeLine_eq]; omega)
  have sb : Heap.SameBut a s.heap (s.heap.update a (Obj.putSet (order.filterMap (es[·]?)) t2)) := Heap.SameBut.update ..
  exact fin _ N _ (ep + 1) t2 sb ⟨⟨_, L2.store_at ho hd, hex, rfl⟩, x1, T, (x2.map (·.2)).nodup_iff.mpr nd, fun p hp => row_same (row p (x2.mem_iff.mp hp)) ho hd sb, by rw [l2]; exact led, by rw [x2.length_eq, m2]; exact room, by rw [x2.length_eq]; exact few⟩ x2
theorem tabOk_plain {hs : List Int} {b : Bool} (T : Tb.Ok t hs) : Tb.Ok { t with plain := b } hs := ⟨T.up, T.clean, T.many, T.mask, T.within, T.back⟩
/-- a row more -/
theorem add (R : SetAt P w s.heap a L es ep t) {x : Addr} {r : Row} (hx : RowAt P w s.heap r x) (hu : A.units < cLine) (few : r ∉ L.map (·.2) → L.length + 1 ≤ cap) {Q : Bool → Shared → Prop}
    (fin : ∀ b k N es2 ep2 t2, Heap.SameBut a s.heap k → SetAt P w k a N es2 ep2 t2 → (r ∈ L.map (·.2) → N = L) → (r ∉ L.map (·.2) → N.Perm ((x, r) :: L)) → Q b { s with heap := k }) : wpAny (model P w) A (setAddHashed a (.ref x) (hsh P w r)) Q E s := by
  obtain ⟨o, ho, hex, hd⟩ := R.at_
  have room := R.room
  have n1 := R.len
  unfold setAddHashed
  refine wpAny_holding ?_
  rw [show (100000 : Nat) = 99999 + 1 from rfl, setAddHashedIn_succ]
  refine wpAny_bind (wpAny_setState_of ho hd R.fit ?_)
  dsimp only
  refine wp_if_neg (by simp [byScan, Value.scannable]) ?_
  try refine wpAny_bind (wpAny_pure ?_)
  refine wpAny_bind (find R hx hu (fun z => ?_) fun K z k2 k3 => ?_)
  · exact wpAny_pure (fin false s.heap L es ep t (Heap.SameBut.refl a s.heap) R (fun _ => rfl) fun q => absurd z q)
  · have few := few z
    have lim : cap = 4000 := rfl
    dsimp only
    refine wpAny_bind (wpAny_setState_of ho hd R.fit ?_)
    dsimp only
    obtain ⟨u1, u2, u3, u4, u5, u9⟩ := R.tab.put k2 k3
    generalize e : t.put (way t.mask (hsh P w r) K) = pt at u1 u3 u4 u5 u9 ⊢
    obtain ⟨t1, p⟩ := pt
    dsimp only at u1 u3 u4 u5 u9 ⊢
    subst u1
    -- the entries with the new one
    have ins : (SetTable.insertAt es (SetTable.below t.place (way t.mask (hsh P w r) K)) (hsh P w r, Value.ref x)).toList = ents P w (L.take (SetTable.below t.place (way t.mask (hsh P w r) K)) ++ (x, r) :: L.drop (SetTable.below t.place (way t.mask (hsh P w r) K))) := by
      rw [SetTable.toList_insertAt, R.ent]
      unfold ents
      rw [List.map_append, List.map_cons, List.map_take, List.map_drop]
    have u3' : Tb.Ok t1 (hss P w (L.take (SetTable.below t.place (way t.mask (hsh P w r) K)) ++ (x, r) :: L.drop (SetTable.below t.place (way t.mask (hsh P w r) K)))) := by
      have : hss P w (L.take (SetTable.below t.place (way t.mask (hsh P w r) K)) ++ (x, r) :: L.drop (SetTable.below t.place (way t.mask (hsh P w r) K))) = (hss P w L).take (SetTable.below t.place (way t.mask (hsh P w r) K)) ++ hsh P w r :: (hss P w L).drop (SetTable.below t.place (way t.mask (hsh P w r) K)) := by
        unfold hss
        rw [List.map_append, List.map_cons, List.map_take, List.map_drop]
      rw [this]; exact u3
    generalize SetTable.below t.place (way t.mask (hsh P w r) K) = j at ins u3' ⊢
    clear u3 u2
    have pm : (L.take j ++ (x, r) :: L.drop j).Perm ((x, r) :: L) := by
      have := List.perm_middle (a := (x, r)) (l₁ := L.take j) (l₂ := L.drop j)
      rwa [List.take_append_drop] at this
    generalize L.take j ++ (x, r) :: L.drop j = N at pm ins u3'
    have n2 : N.length = L.length + 1 := pm.length_eq
    have nd2 : (N.map (·.2)).Nodup := (pm.map (·.2)).nodup_iff.mpr (List.nodup_cons.mpr ⟨z, R.nd⟩)
    have n3 : (SetTable.insertAt es j (hsh P w r, Value.ref x)).size = L.length + 1 := by rw [← Array.length_toList, ents_len ins, n2]
    generalize SetTable.insertAt es j (hsh P w r, Value.ref x) = es1 at ins n3 ⊢
    have led1 : w.params.followText "set-order" = true ∨ t1.led = true := by rw [u5]; exact R.led
    have place1 : t1.place.size = L.length + 1 := by
      have := u3'.many
      unfold hss at this
      rw [this, List.length_map, n2]
    have fill1 : t1.fill = L.length + 1 := by rw [u9]; unfold hss; rw [List.length_map]
    -- whatever the table's mark is
    have both : ∀ c : Bool, wpAny (model P w) A (do
        storeSet a es1 (if c = true then t1 else { t1 with plain := false })
        if (!false && (if c = true then t1 else { t1 with plain := false }).tooFull) = true then setRelay a (SetTable.grown (es.size + 1))
        return true) Q E s := by
      intro c
      have props : ∀ t2 : SetTable, t2 = (if c = true then t1 else { t1 with plain := false }) → t2.mask = t.mask ∧ t2.led = t1.led ∧ Tb.Ok t2 (hss P w N) ∧ t2.place.size = L.length + 1 ∧ t2.fill = L.length + 1 := by
        intro t2 e2
        cases c with
        | true => subst e2; exact ⟨u4, rfl, u3', place1, fill1⟩
        | false => subst e2; exact ⟨u4, rfl, tabOk_plain u3', place1, fill1⟩
      generalize hq : (if c = true then t1 else { t1 with plain := false }) = t2 at props
      obtain ⟨v1, v2, v3, v4, v5⟩ := props t2 rfl
      refine wpAny_bind (wpAny_storeSet_of ho hd ?_ (by rw [n3, sizeLine_eq]; omega))
      have sb : Heap.SameBut a s.heap (s.heap.update a (Obj.putSet es1 t2)) := Heap.SameBut.update ..
      have ho1 := L2.store_at (es' := es1) (t' := t2) ho hd
      generalize s.heap.update a (Obj.putSet es1 t2) = k1 at sb ho1 ⊢
      have row1 : ∀ p ∈ N, RowAt P w k1 p.2 p.1 := fun p hp => by
        rcases List.mem_cons.mp (pm.mem_iff.mp hp) with e | hp
        · rw [e]; exact row_same hx ho hd sb
        · exact row_same (R.row p hp) ho hd sb
      by_cases hf : t2.tooFull = true
      · have hf2 : (L.length + 1) * 5 ≥ t.mask * 3 := by
          have q := hf
          unfold SetTable.tooFull at q
          rw [decide_eq_true_eq, v5, v1] at q
          exact q
        have two : (t.mask = 7 ∧ L.length = 4) ∨ (t.mask = 31 ∧ L.length = 18) ∨ (t.mask = 127 ∧ L.length = 76) ∨ (t.mask = 511 ∧ L.length = 306) ∨ (t.mask = 2047 ∧ L.length = 1228) := by
          rcases R.tab.mask with q | q | q | q | q | q <;> rw [q] at hf2 room <;> omega
        have again : ∀ M, SetTable.sizeAbove (SetTable.grown (L.length + 1)) - 1 = M → Tb.Msk M → SetTable.sizeAbove (SetTable.grown (L.length + 1)) ≤ 8192 → (L.length + 1) * 5 < M * 3 →
            wpAny (model P w) A (setRelay a (SetTable.grown (L.length + 1))) (fun _ z => wpAny (model P w) A (pure true) Q E z) E { s with heap := k1 } := fun M w1 w2 w3 w4 =>
          relay (s := { s with heap := k1 }) ho1 hex rfl ins (by rw [v4, n3]) v3.clean (by rw [n3, v1]; rcases two with ⟨q, q2⟩ | ⟨q, q2⟩ | ⟨q, q2⟩ | ⟨q, q2⟩ | ⟨q, q2⟩ <;> omega) nd2 row1 (by rw [v2]; exact led1) (by rw [n2]; exact few) w1 w2 w3 (by rw [n2]; exact w4)
            fun k2 N2 es2 ep2 t3 sb2 R2 pm2 => wpAny_pure (fin true k2 N2 es2 ep2 t3 (sb.trans sb2) R2 (fun q => absurd q z) fun _ => pm2.trans pm)
        have go : wpAny (model P w) A (setRelay a (SetTable.grown (L.length + 1))) (fun _ z => wpAny (model P w) A (pure true) Q E z) E { s with heap := k1 } := by
          obtain ⟨g1, g2, g3, g4, g5⟩ := Tb.grow4
          rcases two with ⟨_, q⟩ | ⟨_, q⟩ | ⟨_, q⟩ | ⟨_, q⟩ | ⟨_, q⟩
          · exact again 31 (by rw [q, g1]) (.inr (.inl rfl)) (by rw [q, g1]; decide) (by omega)
          · exact again 127 (by rw [q, g2]) (.inr (.inr (.inl rfl))) (by rw [q, g2]; decide) (by omega)
          · exact again 511 (by rw [q, g3]) (.inr (.inr (.inr (.inl rfl)))) (by rw [q, g3]; decide) (by omega)
          · exact again 2047 (by rw [q, g4]) (.inr (.inr (.inr (.inr (.inl rfl))))) (by rw [q, g4]; decide) (by omega)
          · exact again 8191 (by rw [q, g5]) (.inr (.inr (.inr (.inr (.inr rfl))))) (by rw [q, g5]; decide) (by omega)
        rw [n1]
        first
          | exact wpAny_bind (wp_if_pos (by simp [hf]) go)
          | exact wp_if_pos (by simp [hf]) (wpAny_bind go)
      · have done : wpAny (model P w) A (pure true) Q E { s with heap := k1 } := by
          refine wpAny_pure (fin true k1 N es1 (ep + 1) t2 sb ⟨⟨_, ho1, hex, rfl⟩, ins, v3, nd2, row1, by rw [v2]; exact led1, ?_, by rw [n2]; exact few⟩ (fun q => absurd q z) fun _ => pm)
          have q := hf
          unfold SetTable.tooFull at q
          rw [decide_eq_true_eq, v5] at q
          rw [n2]; omega
        first
          | exact wpAny_bind (wp_if_neg (by simp [hf]) (wpAny_pure done))
          | exact wp_if_neg (by simp [hf]) done
    by_cases hp : t1.plain = true
    · first
        | exact wpAny_bind (wp_if_pos hp (row_val hx fun c => both c))
        | exact wp_if_pos hp (wpAny_bind (row_val hx fun c => both c))
    · first
        | exact wpAny_bind (wp_if_neg hp (wpAny_pure (both true)))
        | exact wp_if_neg hp (wpAny_bind (wpAny_pure (both true)))
        | exact wp_if_neg hp (both true)
end
end DL.Rs

/-! set(t), t a tuple -/
namespace DL.St
open PySem PySem.Spec L2 PyProof.Rows
section
variable {P : Program} {w : World} {A : Around} {E : Value → Shared → Prop} {s : Shared}
end
end DL.St

/-! set(xs), xs a list or a tuple of rows of texts; sorted of it -/
namespace DL.Rs
open PySem PySem.Spec L2 PyProof.Rows PySem.W
section
variable {P : Program} {w : World} {A : Around} {E : Value → Shared → Prop} {s : Shared} {R : Result → Shared → Prop} {I : Addr} {fp wr : List Addr} {G : Array GenState → Array GenState → Prop} {n : Nat} {PV : Nat → Value → Prop} {St : Nat → Shared → Prop}
/-- what the first rows give -/
structure Has (ks : List Ad) (L : List Ad) : Prop where
  sub : ∀ p ∈ L, p ∈ ks
  all : ∀ p ∈ ks, p.2 ∈ L.map (·.2)
/-- few unlike rows -/
def Few (ks : List Ad) : Prop := ∀ M : List Row, M.Nodup → (∀ r ∈ M, r ∈ ks.map (·.2)) → M.length ≤ cap
end
/-- the set, but for its rows -/
structure Set0 (P : Program) (w : World) (h : Heap) (a : Addr) (L : List Ad) : Prop where
  ex : ∃ (o : Obj) (es : Array (Int × Value)) (ep : Nat) (t : SetTable), h.get? a = some o ∧ o.ExactSet ∧ o.data = .set es ep t ∧ es.toList = ents P w L ∧ Tb.Ok t (hss P w L) ∧ (L.map (·.2)).Nodup ∧ (w.params.followText "set-order" = true ∨ t.led = true) ∧ L.length * 5 < t.mask * 3 ∧ L.length ≤ cap
def SetRO (P : Program) (w : World) (a : Addr) (L : List Ad) : HO := .ext fun h => Set0 P w h a L
section
variable {X : Cx}
theorem SetAt.zero {P : Program} {w : World} {h : Heap} {a : Addr} {L : List Ad} {es : Array (Int × Value)} {ep : Nat} {t : SetTable} (R : SetAt P w h a L es ep t) : Set0 P w h a L := by
  obtain ⟨o, ho, h1, h2⟩ := R.at_
  exact ⟨o, es, ep, t, ho, h1, h2, R.ent, R.tab, R.nd, R.led, R.room, R.few⟩
theorem Set0.full {P : Program} {w : World} {h : Heap} {a : Addr} {L : List Ad} (R : Set0 P w h a L) (row : ∀ p ∈ L, RowAt P w h p.2 p.1) : ∃ es ep t, SetAt P w h a L es ep t := by
  obtain ⟨o, es, ep, t, ho, h1, h2, h3, h4, h5, h6, h7, h8⟩ := R.ex
  exact ⟨es, ep, t, ⟨o, ho, h1, h2⟩, h3, h4, h5, row, h6, h7, h8⟩
/-- set(xs) -/
def rSetR (K : PySem.W.Frag) (P : Program) (w : World) : List V → Hp → VK → Prop := fun vs H Q => ∃ (l : Addr) (ks : List Ad), vs = [.ref l] ∧ (SqL K H l (ks.map fun p => V.ref p.1) ∨ SqT K H l (ks.map fun p => V.ref p.1)) ∧ (∀ p ∈ ks, SqT K H p.1 (p.2.map V.str)) ∧ Few ks ∧
  ∀ (p : Addr) (L : List Ad), H p = none → Has ks L → (L.map (·.2)).Nodup → Q (.ref p) (upd H p (SetRO P w p L))
end
end DL.Rs

/-! sorting one thing, of any kind -/
namespace DL
open PySem PySem.Spec PySem.W PyProof.Rows
def Sortable1 (ds : List PyData) : Prop := Sortable ds ∨ (ds.length ≤ 1 ∧ ∀ d ∈ ds, d ≠ .none)
section
variable {prog : Program} {w : World} {A : Around} {E : Value → Shared → Prop} {s : Shared} {β : Type} {vs : List Value} {bs : List β} {enc : β → PyData} {R : Value → β → Prop}
end
end DL

/-! sorted(a set of rows), as calls -/
namespace DL.Rs
open PySem PySem.Spec L2 PyProof.Rows PySem.W
/-- rows by their codes -/
def cpsR (r : Row) : List (List Nat) := r.map fun x => x.cps.toList
def leR (r q : Row) : Bool := decide (cpsR r ≤ cpsR q)
def encR (r : Row) : PyData := .tuple (r.map .str)
section
variable {P : Program} {w : World} {A : Around} {E : Value → Shared → Prop} {s : Shared} {a : Addr} {L : List Ad}
end
section
variable {X : Cx}
/-- sorted(set) -/
def rSortR (K : PySem.W.Frag) (P : Program) (w : World) : List V → Hp → VK → Prop := fun vs H Q => ∃ (a : Addr) (L : List Ad), vs = [.ref a] ∧ H a = some (SetRO P w a L) ∧ (∀ p ∈ L, SqT K H p.1 (p.2.map V.str)) ∧ ((∀ p ∈ L, p.2 ≠ []) ∨ L.length ≤ 1) ∧
  ∀ (M : List Ad) (p : Addr), M.Perm L → H p = none → Q (.ref p) (upd H p (.lst ((M.mergeSort fun x y => leR x.2 y.2).map fun p => V.ref p.1)))
end
end DL.Rs

/-! sorted(set(x)) upon data: of texts, of rows of texts -/
namespace DL.Rs
open PySem PySem.Spec L2
/-- each once -/
def dedupR : List Row → List Row
  | [] => []
  | x :: xs => if x ∈ xs then dedupR xs else x :: dedupR xs
theorem mem_dedupR {x : Row} : ∀ {xs : List Row}, x ∈ dedupR xs ↔ x ∈ xs
  | [] => Iff.rfl
  | y :: ys => by
    unfold dedupR
    split
    · rename_i h
      rw [mem_dedupR, List.mem_cons]
      exact ⟨.inr, fun z => z.elim (fun e => by rw [e]; exact h) id⟩
    · rw [List.mem_cons, List.mem_cons, mem_dedupR]
theorem nodup_dedupR : ∀ xs : List Row, (dedupR xs).Nodup
  | [] => List.nodup_nil
  | y :: ys => by
    unfold dedupR
    split
    · exact nodup_dedupR ys
    · rename_i h
      exact List.nodup_cons.mpr ⟨fun z => h (mem_dedupR.mp z), nodup_dedupR ys⟩
/-- ascending, each once -/
def srtR (xs : List Row) : List Row := (dedupR xs).mergeSort leR
theorem leR_trans (a b c : Row) (h1 : leR a b = true) (h2 : leR b c = true) : leR a c = true := decide_eq_true (List.le_trans (of_decide_eq_true h1) (of_decide_eq_true h2))
theorem leR_total (a b : Row) : (leR a b || leR b a) = true := by
  rcases List.le_total (cpsR a) (cpsR b) with h | h
  · simp [leR, h]
  · simp [leR, h]
theorem cpsR_inj : ∀ {a b : Row}, cpsR a = cpsR b → a = b
  | [], [], _ => rfl
  | [], _ :: _, h => by cases h
  | _ :: _, [], h => by cases h
  | x :: a, y :: b, h => by
    injection h with h1 h2
    rw [PySem.W.str_of_cps h1, cpsR_inj h2]
theorem leR_anti {a b : Row} (h1 : leR a b = true) (h2 : leR b a = true) : a = b := cpsR_inj (List.le_antisymm (of_decide_eq_true h1) (of_decide_eq_true h2))
end DL.Rs
namespace DL
open PySem PySem.Spec L2
def encRow (r : List Str) : D := .tup (r.map .str)
def rowsL : List D → Option (List (List Str))
  | [] => some []
  | .tup t :: l => match strL t, rowsL l with
    | some r, some rs => some (r :: rs)
    | _, _ => none
  | _ => none
/-- of rows -/
def srowsD (l : List D) : Mo D := match rowsL l with
  | some rs => need ((Rs.dedupR rs).length ≤ 4000 ∧ (rs.all (fun r => !r.isEmpty) || decide ((Rs.dedupR rs).length ≤ 1)) = true) (ret (.lst ((Rs.srtR rs).map encRow)))
  | none => stop
/-- sorted(set(x)) -/
def ssetD (a : D) : Mo D := match a with
  | .lst l => match strL l with
    | some ys => need (ys.length + 1 < 4096) (ret (.lst ((St.srtS ys).map .str)))
    | none => srowsD l
  | .tup l => srowsD l
  | _ => stop
section
variable {P : Program} {w : World} {base : Heap} {k : Nat} {N : List Str} {sc : Scope} {X : Cx} {c : Cn}
def rSetAll (K : PySem.W.Frag) (P : Program) (w : World) : List V → Hp → VK → Prop := fun vs H Q => St.rSet K w vs H Q ∨ Rs.rSetR K P w vs H Q
def rSortAll (K : PySem.W.Frag) (P : Program) (w : World) : List V → Hp → VK → Prop := fun vs H Q => St.rSort w vs H Q ∨ Rs.rSortR K P w vs H Q
end
end DL

/-! sorted(set(t)), t a tuple of whole numbers -/
namespace DL.It
open PySem PySem.Spec L2 PyProof.Rows PySem.W
/-- the text of an entry -/
def tx (e : Int × Value) : Int := match e.2 with
  | .int x _ => x
  | _ => 0
def Good (w : World) (e : Int × Value) : Prop := ∃ x t, e = (hashInt x, Value.int x t)
/-- the set of the texts L, in the order of its rows -/
structure SR (w : World) (h : Heap) (a : Addr) (L : List Int) : Prop where
  ex : ∃ o es ep t, h.get? a = some o ∧ o.ExactSet ∧ o.data = .set es ep t ∧ (∀ e ∈ es.toList, Good w e) ∧ es.toList.map tx = L ∧ t.fits es.size = true ∧ Ris t.place.toList ∧ (w.params.followText "set-order" = true ∨ t.led = true)
  nd : L.Nodup
  few : L.length < scanBound
section
variable {P : Program} {w : World} {A : Around} {E : Value → Shared → Prop} {s : Shared} {a : Addr} {L : List Int} {h h' : Heap}
theorem good_els {l : List (Int × Value)} (g : ∀ e ∈ l, Good w e) : ElemsOf (intKind P w) l := fun e he => by
  obtain ⟨x, t, rfl⟩ := g e he
  exact ⟨⟨x, by show Value.isInt x (.int x t) = true; simp [Value.isInt], rfl⟩, rfl⟩
theorem is_tx {e : Int × Value} (g : Good w e) (x : Int) : (intKind P w).is x e.2 = true ↔ tx e = x := by
  obtain ⟨y, t, rfl⟩ := g
  show Value.isInt x (.int y t) = true ↔ y = x
  simp [Value.isInt]
theorem SR.size {o : Obj} {es : Array (Int × Value)} {L : List Int} (e : es.toList.map tx = L) : es.size = L.length := by
  rw [← e, List.length_map, Array.length_toList]
/-- behind the new entry: the table is laid again, or it is not -/
theorem add_end {g : Bool → Sem Unit} (hg : ∀ (b : Bool) (z : Shared) (Q : Unit → Shared → Prop), Q () z → wpAny (model P w) A (g b) Q E z) {o : Obj} {es es1 : Array (Int × Value)} {ep : Nat} {t t1 : SetTable} {wd : Bool} {M : List Int} {R : Option Bool → Shared → Prop}
    (ho : s.heap.get? a = some o) (hx : o.ExactSet) (hd : o.data = .set es ep t) (gd : ∀ e ∈ es1.toList, Good w e) (pm : (es1.toList.map tx).Perm M) (ndM : M.Nodup) (fewM : M.length < scanBound) (fit : t1.fits es1.size = true) (ri : Ris t1.place.toList) (le : w.params.followText "set-order" = true ∨ t1.led = true)
    (fin : ∀ (k : Heap) (M' : List Int), Heap.SameBut a s.heap k → M'.Perm M → SR w k a M' → R (some true) { s with heap := k }) :
    wpAny (model P w) A (do
      storeSet a es1 t1
      if (!wd && t1.tooFull) = true then do
        g (relayAll t1 es1 (SetTable.grown es1.size)).2.2
        storeSet a (relayAll t1 es1 (SetTable.grown es1.size)).1 (relayAll t1 es1 (SetTable.grown es1.size)).2.1
        pure (some true)
      else pure (some true)) R E s := by
  have sz1 : es1.size = M.length := by rw [← pm.length_eq, List.length_map, Array.length_toList]
  have b1 : es1.size < scanBound := by rw [sz1]; exact fewM
  have put1 := L2.store_at (es' := es1) (t' := t1) ho hd
  have but1 := Heap.SameBut.update s.heap a (Obj.putSet es1 t1)
  refine wpAny_bind (wpAny_storeSet_of ho hd ?_ (fits_of_scanBound b1))
  by_cases full : (!wd && t1.tooFull) = true
  · rw [if_pos full]
    have q1 := relayAll_perm t1 es1 (SetTable.grown es1.size)
    have q2 := relayAll_fits t1 es1 (SetTable.grown es1.size)
    have q3 := relayAll_ris t1 es1 (SetTable.grown es1.size)
    have q4 := relayAll_led t1 es1 (SetTable.grown es1.size)
    generalize relayAll t1 es1 (SetTable.grown es1.size) = Y at q1 q2 q3 q4 ⊢
    obtain ⟨es2, t2, gv⟩ := Y
    dsimp only at q1 q2 q3 q4 ⊢
    have b2 : es2.size < scanBound := by rw [← Array.length_toList, q1.length_eq, Array.length_toList]; exact b1
    refine wpAny_bind (hg _ _ _ (wpAny_bind (wpAny_storeSet_of put1 rfl ?_ (fits_of_scanBound b2))))
    have put2 := L2.store_at (es' := es2) (t' := t2) put1 rfl
    have pm2 := (q1.map tx).trans pm
    exact wpAny_pure (fin _ _ (but1.trans (Heap.SameBut.update _ a _)) pm2 ⟨⟨_, es2, _, t2, put2, hx, rfl, fun e he => gd e (q1.mem_iff.mp he), rfl, q2, q3, le.imp id fun z => by rw [q4]; exact z⟩, pm2.nodup_iff.mpr ndM, by rw [pm2.length_eq]; exact fewM⟩)
  · rw [if_neg full]
    exact wpAny_pure (fin _ _ but1 pm ⟨⟨_, es1, _, t1, put1, hx, rfl, gd, rfl, fit, ri, le⟩, pm.nodup_iff.mpr ndM, by rw [pm.length_eq]; exact fewM⟩)
/-- a text is added -/
theorem SR.add {x : Int} {t : Tok} {Q : Bool → Shared → Prop} (R : SR w s.heap a L) (room : L.length + 1 < scanBound)
    (hQ : ∀ (k : Heap) (M : List Int) (b : Bool), Heap.SameBut a s.heap k → (x ∈ L → M = L) → (x ∉ L → M.Perm (x :: L)) → SR w k a M → Q b { s with heap := k }) : wpAny (model P w) A (setAddHashed a (.int x t) ((intKind P w).hash x)) Q E s := by
  obtain ⟨⟨o, es, ep, tb, ho, hx, hd, gd, eL, fit, ri, le⟩, nd, few⟩ := R
  have isx : (intKind P w).is x (.int x t) = true := by show Value.isInt x (.int x t) = true; simp [Value.isInt]
  have sca : (Value.int x t).scannable = true := rfl
  have els := good_els (P := P) gd
  have sz : es.size = L.length := by rw [← eL, List.length_map, Array.length_toList]
  unfold setAddHashed setAddHashedIn
  refine wpAny_holding (wpAny_bind (wpAny_setState_of ho hd fit ?_))
  dsimp only
  rw [byScan_of sca (by rw [sz]; exact few) els]
  simp only [↓reduceIte]
  unfold setAddByScan
  refine wpAny_bind (wpAny_bind (wpAny_rule (wpAny_bind (wpAny_setScan_of isx ho hd fit els ?_))))
  cases hf : List.findIdx? (fun e => (intKind P w).is x e.2) es.toList with
  | some j =>
    dsimp only
    obtain ⟨hj, pj, _⟩ := List.findIdx?_eq_some_iff_getElem.mp hf
    have hm : x ∈ L := by
      rw [← eL, ← (is_tx (P := P) (gd _ (List.getElem_mem hj)) x).mp pj]
      exact List.mem_map_of_mem (List.getElem_mem hj)
    exact wpAny_pure (wpAny_pure (hQ s.heap L _ (Heap.SameBut.refl a s.heap) (fun _ => rfl) (fun z => absurd hm z) ⟨⟨o, es, ep, tb, ho, hx, hd, gd, eL, fit, ri, le⟩, nd, few⟩))
  | none =>
    dsimp only
    have hm : x ∉ L := fun z => by
      rw [← eL] at z
      obtain ⟨e, he, e2⟩ := List.mem_map.mp z
      have c := List.findIdx?_eq_none_iff.mp hf e he
      rw [(is_tx (P := P) (gd e he) x).mpr e2] at c
      exact Bool.noConfusion c
    have way : ∀ (b : Bool) {z : Shared} {Q' : Unit → Shared → Prop}, Q' () z → wpAny (model P w) A (match b with | true => rule "set.scan.the-table-gave-way" | false => pure ()) Q' E z :=
      fun b z Q' q => by cases b <;> first | exact wpAny_pure q | exact wpAny_rule q
    have p1 := layNew_perm tb es ((intKind P w).hash x) (.int x t)
    have p2 := layNew_fits tb es ((intKind P w).hash x) (.int x t)
    have p3 := layNew_ris tb es ((intKind P w).hash x) (.int x t) ri
    have p4 := layNew_led tb es ((intKind P w).hash x) (.int x t)
    generalize layNew tb es ((intKind P w).hash x) (.int x t) = Y at p1 p2 p3 p4 ⊢
    obtain ⟨es1, t1, wd, gv⟩ := Y
    dsimp only at p1 p2 p3 p4 ⊢
    rw [Array.toList_push] at p1
    have p5 : es1.toList.Perm (((intKind P w).hash x, Value.int x t) :: es.toList) := p1.trans (List.perm_append_singleton _ _)
    have p6 : (es1.toList.map tx).Perm (x :: L) := by
      rw [← eL]
      exact p5.map tx
    have gd1 : ∀ e ∈ es1.toList, Good w e := fun e he => by
      rcases List.mem_cons.mp (p5.mem_iff.mp he) with z | z
      · exact ⟨x, t, z⟩
      · exact gd e z
    have nd1 : (x :: L).Nodup := List.nodup_cons.mpr ⟨hm, nd⟩
    have le1 : w.params.followText "set-order" = true ∨ t1.led = true := le.imp id fun z => by rw [p4]; exact z
    have fin : ∀ (b : Bool) (k : Heap) (M : List Int), Heap.SameBut a s.heap k → M.Perm (x :: L) → SR w k a M → Q b { s with heap := k } := fun b k M q1 q2 q3 => hQ k M b q1 (fun z => absurd z hm) (fun _ => q2) q3
    refine wpAny_bind (way _ ?_)
    split
    · refine wpAny_bind ?_
      rw [hashByValue_scannable 8 sca]
      refine wpAny_pure ?_
      refine add_end (M := x :: L) (fun b z Q' q => way b q) ho hx hd gd1 p6 nd1 room ?_ ?_ ?_ fun k M q1 q2 q3 => ?_
      · first | exact p2 | (split <;> first | exact p2 | exact SetTable.fits_plain_off p2)
      · first | exact p3 | (split <;> exact p3)
      · first | exact le1 | (split <;> exact le1)
      · dsimp only
        exact wpAny_pure (fin _ k M q1 q2 q3)
    · refine wpAny_bind (wpAny_pure ?_)
      simp only [↓reduceIte]
      refine add_end (M := x :: L) (fun b z Q' q => way b q) ho hx hd gd1 p6 nd1 room p2 p3 le1 fun k M q1 q2 q3 => ?_
      dsimp only
      exact wpAny_pure (fin _ k M q1 q2 q3)
end
/-- what the first rows give -/
structure Got (xs : List Int) (L : List Int) : Prop where
  sub : ∀ x ∈ L, x ∈ xs
  all : ∀ x ∈ xs, x ∈ L
section
variable {P : Program} {w : World} {A : Around} {R : Result → Shared → Prop} {I : Addr} {fp wr : List Addr} {G : Array GenState → Array GenState → Prop} {n : Nat} {PV : Nat → Value → Prop} {St : Nat → Shared → Prop}
end
section
variable {P : Program} {w : World} {A : Around} {E : Value → Shared → Prop} {s : Shared} {a : Addr} {L : List Int}
def leS (x y : Int) : Bool := decide (x ≤ y)
end
def SetO (w : World) (a : Addr) (L : List Int) : HO := .ext fun h => SR w h a L
section
variable {X : Cx}
def rSet (K : PySem.W.Frag) (w : World) : List V → Hp → VK → Prop := fun vs H Q => ∃ (l : Addr) (xs : List Int), vs = [.ref l] ∧ SqT K H l (xs.map V.int) ∧ xs.length + 1 < 4096 ∧ ∀ (p : Addr) (L : List Int), H p = none → Got xs L → L.Nodup → Q (.ref p) (upd H p (SetO w p L))
def rSort (w : World) : List V → Hp → VK → Prop := fun vs H Q => ∃ (a : Addr) (L : List Int), vs = [.ref a] ∧ H a = some (SetO w a L) ∧ ∀ (M : List Int) (p : Addr), M.Perm L → H p = none → Q (.ref p) (upd H p (.lst ((M.mergeSort leS).map V.int)))
end
/-- each once -/
def dedupS : List Int → List Int
  | [] => []
  | x :: xs => if x ∈ xs then dedupS xs else x :: dedupS xs
theorem mem_dedup {x : Int} : ∀ {xs : List Int}, x ∈ dedupS xs ↔ x ∈ xs
  | [] => Iff.rfl
  | y :: ys => by
    unfold dedupS
    split
    · rename_i h
      rw [mem_dedup, List.mem_cons]
      exact ⟨.inr, fun z => z.elim (fun e => by rw [e]; exact h) id⟩
    · rw [List.mem_cons, List.mem_cons, mem_dedup]
theorem nodup_dedup : ∀ xs : List Int, (dedupS xs).Nodup
  | [] => List.nodup_nil
  | y :: ys => by
    unfold dedupS
    split
    · exact nodup_dedup ys
    · rename_i h
      exact List.nodup_cons.mpr ⟨fun z => h (mem_dedup.mp z), nodup_dedup ys⟩
/-- ascending, each once -/
def srtS (xs : List Int) : List Int := (dedupS xs).mergeSort leS
theorem leS_trans (a b c : Int) (h1 : leS a b = true) (h2 : leS b c = true) : leS a c = true := by simp only [leS, decide_eq_true_eq] at *; omega
theorem leS_total (a b : Int) : (leS a b || leS b a) = true := by simp only [leS, Bool.or_eq_true, decide_eq_true_eq]; omega
theorem leS_anti {a b : Int} (h1 : leS a b = true) (h2 : leS b a = true) : a = b := by simp only [leS, decide_eq_true_eq] at *; omega
end DL.It

/-! sorted(set(t)) upon data: t a tuple of whole numbers -/
namespace DL
open PySem PySem.Spec L2
def isetD (a : D) : Mo D := match a with
  | .tup l => match intL l with
    | some ys => need (ys.length + 1 < 4096) (ret (.lst ((It.srtS ys).map .int)))
    | none => stop
  | _ => stop
section
variable {P : Program} {w : World} {base : Heap} {k : Nat} {N : List Str} {sc : Scope} {X : Cx} {c : Cn}
end
end DL

/-! part fifteen: short words of the printed proofs -/
namespace DL
open PySem PySem.Spec L2
def timesD (a b : D) : Mo D := match a, b with
  | .str x, .int k => need (x.length ≤ 64 ∧ -1000 ≤ k ∧ k ≤ 60000) (ret (.str (Txt.mul x k)))
  | .str _, _ => stop
  | _, _ => mulD a b
def rStrM : R2 := fun x y H Q => ∃ i k, x = .str i ∧ y = .int k ∧ i.length ≤ 64 ∧ -1000 ≤ k ∧ k ≤ 60000 ∧ Q (.str (Txt.mul i k)) H
theorem mgz {c : Cn} {mg : Str → Option Value} {x : Str} (hm : c.mg = mg) (h : mg x = none) : c.mg x = none := by rw [hm]; exact h
section
variable {P : Program} {w : World} {K : PySem.W.Frag} {mg : Str → Option Value} {base : Heap} {k : Nat} {N : List Str} {sc : Scope} {X : Cx} {c : Cn}
theorem mgzX {x : Str} (G : Gd P w base k N sc X c) (hm : c.mg = mg) (h : mg x = none) : X.mg x = none := by rw [G.mg, hm]; exact h
theorem FOk.at {e : FE} (h : FOk P w K mg base k e) (hK : c.K = K) (hm : c.mg = mg) : FOk P w c.K c.mg base k e := by rw [hK, hm]; exact h
end
end DL

/-! part sixteen: the deck is made; the law's body behind it -/
namespace DL
open PySem PySem.Spec L2
/-- the deck is made of the script -/
def spDeck (K : PySem.W.Frag) : Sp := fun vs H Q _ => ∃ (a : Addr) (ns : List Int), vs = [.ref a] ∧ SqL K H a (ns.map V.int) ∧ ∀ (H' : Hp) (p s : Addr), s ≠ p → H' p = some (.lst [.ref s, .int 0, .int 0, .int 0]) → H' s = some (.lst ((ns.take 63).map V.int)) → Q (.ref p) H'
theorem cut63 (ns : List Int) : cutV (ns.map V.int) none (some 63) = (ns.take 63).map V.int := by
  unfold cutV
  rw [HT.sIx_none, show HT.sIx (ns.map V.int).length (ns.map V.int).length (some 63) = min 63 (ns.map V.int).length from HT.sIx_nat _ _ 63]
  simp only [List.drop_zero, Nat.sub_zero, List.length_map, ← List.map_take]
  congr 1
  by_cases h : 63 ≤ ns.length
  · rw [Nat.min_eq_left h]
  · rw [Nat.min_eq_right (by omega), List.take_length, List.take_of_length_le (by omega)]
/-- what its text leaves -/
theorem deck_end {K : PySem.W.Frag} {vs : List V} {H : Hp} {Q : VK} {E : XK} (h : spDeck K vs H Q E) : ∃ (a : Addr) (ns : List Int), vs = [.ref a] ∧ SqL K H a (ns.map V.int) ∧
    ∀ c, H c = none → ∀ l, (upd H c (.lst (cutV (ns.map V.int) none (some 63)))) l = none → ∀ p, (upd (upd H c (.lst (cutV (ns.map V.int) none (some 63)))) l (.lst (cutV (ns.map V.int) none (some 63)))) p = none →
      Q (.ref p) (upd (upd (upd H c (.lst (cutV (ns.map V.int) none (some 63)))) l (.lst (cutV (ns.map V.int) none (some 63)))) p (.lst [.ref l, .int 0, .int 0, .int 0])) := by
  obtain ⟨a, ns, e, hs, q⟩ := h
  refine ⟨a, ns, e, hs, fun c hc l hl p hp => q _ p l (fun z => ?_) upd_same ?_⟩
  · rw [z, upd_same] at hp; cases hp
  · rw [upd_ne (fun z => by rw [← z, upd_same] at hp; cases hp), upd_same, cut63]
/-- the law's body: the deck is made, then the rest goes on with it -/
theorem law_body {P : Program} {w : World} {base : Heap} {k : Nat} {N : List Str} {sc : Scope} {K : PySem.W.Frag} {mg : Str → Option Value} {X : Cx} {rest : List Stmt} {t : DS} {i : Nat} {f : Addr} {fd : FuncData} {a : Addr} {ns : List Int} {H : Hp} {p0 p1 p2 p3 p4 : Pos}
    (T : Top P w base k N sc K mg X) (F : FnOk P w K mg base CX0 k f fd ["_law_script"] (spDeck K)) (hx : mg "_law_deck" = some (.ref f)) (hk : PySem.W.keepIn K (.ref f) = true) (hb : Binds K fd ["_law_script"] [])
    (hN0 : nameOk N sc 0 "_law_script" = true) (hNi : slotOk N sc i "_law_deck_here" = true) (hi0 : i ≠ 0) (hiN : i < N.length) (hgl : glB sc "_law_deck" = true)
    (hrest : ∀ c : Cn, c.K = K → c.mg = mg → Gd P w base k N sc X c → PSs X rest (tS c t)) (hs : SqL K H a (ns.map V.int))
    (math : t ((List.replicate N.length EV.no).set i (.val .deck)) { nx := fun _ _ => False, rt := fun d _ => d = .bl true } (fun _ _ _ => False) ⟨most, []⟩) :
    ∃ t', PSs X (.Assign [.Name "_law_deck_here" p0] (.Call (.Name "_law_deck" p1) [.Name "_law_script" p2] [] p3) p4 :: rest) t' ∧ t' { nx := fun _ _ => False, rt := fun v _ => v = .bl true } (L2.start N [.ref a]) H := by
  have c0 : Cn := { K := K, mg := mg, dk := none, H0 := H, n0 := ⟨most, []⟩, O := fun _ => False, W := fun _ _ _ _ => False, Xq := fun _ _ _ => False, gh := [], hid := [] }
  have eK := T.K
  have em := T.mg
  have eP := T.prog
  have ew := T.w
  have eb := T.base
  subst eK em eP ew eb
  obtain ⟨g1, g2, g3⟩ := glB_of hgl
  have hgl' : Gl X "_law_deck" := by unfold Gl Env.kindOf; rw [T.sc]; exact g1
  simp only [nameOk, Bool.and_eq_true, decide_eq_true_eq, Bool.not_eq_true'] at hN0
  obtain ⟨⟨⟨n1, n2⟩, n3⟩, n4⟩ := hN0
  simp only [slotOk, Bool.and_eq_true, decide_eq_true_eq] at hNi
  have first : PS X (.Assign [.Name "_law_deck_here" p0] (.Call (.Name "_law_deck" p1) [.Name "_law_script" p2] [] p3) p4) (tAsg (tCall (spDeck X.K) [] E0 (tCons (tVar 0) tNil)) (gName i)) :=
    ps_set (by rw [T.N]; exact T.nd) (by rw [T.N]; exact hNi.1) (by rw [T.sc]; exact loc_of hNi.2) (pe_call F T.room hgl' hx hk hb .nil pass0 (pa_cons (pe_var (by rw [T.N]; exact n1) (by rw [T.sc]; exact vis_of n2) n3 n4) pa_nil) g2) rfl (.inl (T.fn.all _))
  have hR : PSs X rest (fun D σ H => ∃ c : Cn, c.K = X.K ∧ c.mg = X.mg ∧ c.W = (fun _ _ _ _ => False) ∧ c.Xq = (fun _ _ _ => False) ∧ tS c t D σ H) := ⟨fun pins s σ H D I q => by
    obtain ⟨c, e1, e2, e3, e4, q⟩ := q
    exact (hrest c e1 e2 (T.gd e1 e2 e3 e4)).run pins s σ H D I q⟩
  refine ⟨_, pss_cons first hR, ?_⟩
  have hl : 0 < N.length := by omega
  refine ⟨.ref a, by simp [L2.start], a, ns, rfl, hs, fun H' p s nps hp hsr => ?_⟩
  let c : Cn := { K := X.K, mg := X.mg, dk := some (p, s), H0 := H', n0 := ⟨most, []⟩, O := fun _ => False, W := fun _ _ _ _ => False, Xq := fun _ _ _ => False, gh := [], hid := [] }
  have vi : VI c.K c.dk ⟨most, []⟩ H' := ⟨fun p' s' e => by
    cases e
    exact ⟨⟨ns.take 63, 0, 0, 0, hp, nps, hsr, by simp [List.length_take]; omega, by decide, by decide, by decide, by simp⟩, fun z => z rfl, fun z => z rfl⟩, fun a o q => by cases q⟩
  refine ⟨c, rfl, rfl, rfl, rfl, fun _ => none, _, ⟨most, []⟩, ?_, { nx := fun _ _ => False, rt := fun d _ => d = .bl true }, ⟨fun _ _ _ _ _ q _ => q.elim, fun _ _ _ _ _ q _ => q.elim, fun _ _ _ _ _ q _ => q.elim, fun d n v H2 q _ _ r => ?_⟩, math⟩
  · have len : (L2.start N [V.ref a]).length = N.length := by simp [L2.start]; omega
    refine ⟨vi, Ext.refl, vi, fun _ z => z.elim, fun j d e => ?_, fun j d e => ?_, fun _ _ e => (by cases e), fun _ _ _ e => (by cases e), by simp [len], fun _ e => (by cases e), fun _ e => (by cases e)⟩
    · rcases get_set e with ⟨rfl, hl2, e⟩ | ⟨ne, e⟩
      · cases e
        exact ⟨.ref p, by rw [List.getElem?_set_self (by rw [len]; exact hiN)], .deck rfl⟩
      · rw [List.getElem?_replicate] at e
        split at e <;> cases e
    · rcases get_set e with ⟨_, _, e⟩ | ⟨ne, e⟩
      · cases e
      · rw [List.getElem?_replicate] at e
        split at e <;> cases e
  · subst q
    cases r
    rfl
end DL

/-! part seventeen a: dict(a tuple of pairs) -/
namespace DL
open PySem PySem.Spec L2 PyProof.Rows
section
variable {X : Cx}
def rDictT (K : PySem.W.Frag) : List V → Hp → VK → Prop := fun xs H Q => ∃ (a : Addr) (ps : List Addr) (kvs : List (Key × V)), xs = [.ref a] ∧ SqT K H a (ps.map V.ref) ∧ PlT K H a ∧ Paired (fun p kv => SqT K H p [kV kv.1, kv.2]) ps kvs ∧
    ∀ p, H p = none → Q (.ref p) (upd H p (.dK (mergeK [] kvs)))
end
end DL

/-! part seventeen: isinstance, isupper, dict(..), str(..) -/
namespace DL
open PySem PySem.Spec L2
theorem char_lt (c : Char) : c.toNat < 0x110000 := by
  have := c.valid
  unfold UInt32.isValidChar Nat.isValidChar at this
  show c.val.toNat < _
  omega
theorem ok_of (s : String) : PyData.strOk (Str.ofString s) = true := by
  rw [strOk_iff, Str.ofString_eq_toList]
  intro c hc
  simp only [List.mem_map] at hc
  obtain ⟨x, _, rfl⟩ := hc
  exact char_lt x
/-! ### isinstance, a built-in class -/
def tyD : D → Option String
  | .non => some "NoneType"
  | .bl _ => some "bool"
  | .int _ => some "int"
  | .str _ => some "str"
  | .tup _ => some "tuple"
  | .lst _ => some "list"
  | .dct _ _ => some "dict"
  | _ => none
def isiD (n : String) (a : D) : Mo D := match tyD a with
  | some t => match kitB t n with
    | some b => ret (.bl b)
    | none => stop
  | none => stop
section
variable {P : Program} {w : World} {base : Heap} {k : Nat} {N : List Str} {sc : Scope} {X : Cx} {c : Cn} {pos : Pos} {e : Expr} {te : DE} {me : Md}
/-! ### isupper -/
def upperD : D → Mo D
  | .str s => ret (.bl (Txt.isupper s))
  | _ => stop
/-! ### str of an int -/
/-! ### dict(d), dict(ps) -/
def pairD : D → Option (Key × D)
  | .tup [a, b] => (keyD a).map fun k => (k, b)
  | _ => none
def pairsD : List D → Option (List (Key × D))
  | [] => some []
  | d :: l => match pairD d, pairsD l with
    | some p, some ps => some (p :: ps)
    | _, _ => none
/-- one after the other, later ones win -/
def mergeD (ps : List (Key × D)) : List Key × List D := ps.foldl (fun acc p => putL acc.1 acc.2 p.1 p.2) ([], [])
def dictD : D → Mo D
  | .dct ks ds => ret (.dct ks ds)
  | .lst l => match pairsD l with
    | some ps => ret (.dct (mergeD ps).1 (mergeD ps).2)
    | none => stop
  | .tup l => match pairsD l with
    | some ps => ret (.dct (mergeD ps).1 (mergeD ps).2)
    | none => stop
  | _ => stop
def rDictAll (K : PySem.W.Frag) : List V → Hp → VK → Prop := fun xs H Q => (∃ (a : Addr) (kvs : List (Key × V)), xs = [.ref a] ∧ Rd H a (.dK kvs) ∧ ∀ p, H p = none → Q (.ref p) (upd H p (.dK kvs))) ∨
  ∃ (a : Addr) (ps : List Addr) (kvs : List (Key × V)), xs = [.ref a] ∧ SqL K H a (ps.map V.ref) ∧ Paired (fun p kv => SqT K H p [kV kv.1, kv.2]) ps kvs ∧ ∀ p, H p = none → Q (.ref p) (upd H p (.dK (mergeK [] kvs)))
def rDictA3 (K : PySem.W.Frag) : List V → Hp → VK → Prop := fun xs H Q => rDictAll K xs H Q ∨ rDictT K xs H Q
end
end DL

/-! part eighteen: a, b = e1, e2 -/
namespace DL
open PySem PySem.Spec L2
def evO (o : Bool) (d : D) : EV := if o = true then .own d else .val d
def mdO (o : Bool) : Md := if o = true then .f else .s
section
variable {c : Cn} {own : Nat → Option Addr} {env : Env'} {n n' : Gn} {σ : St} {H H' : Hp} {gh : List (V × D)} {hid : List Addr} {v : V} {d : D} {p : Addr} {i : Nat} {o : Bool}
theorem AV.wg {a : Addr} (h : AV c n own a) : AV (c.wg gh hid) n own a := by
  rcases h with h | h | h | h
  · exact .inl h
  · exact .inr (.inl h)
  · exact .inr (.inr (.inl h))
  · exact .inr (.inr (.inr (List.mem_append_right _ h)))
theorem ER.ofW (R : ER (c.wg gh hid) own env n σ H) : ER c own env n σ H where
  vi := R.vi
  ext := R.ext
  vi0 := R.vi0
  lo := R.lo
  val := fun i d h => by
    obtain ⟨v, h1, h2⟩ := R.val i d h
    exact ⟨v, h1, h2.less fun _ z => z.wg⟩
  ow := fun i d h => by
    obtain ⟨p, h1, h2, h3⟩ := R.ow i d h
    exact ⟨p, h1, h2, h3.less fun _ z => z.wg⟩
  onl := R.onl
  inj := R.inj
  len := R.len
  gh := fun q h => (R.gh q (List.mem_append_right _ h)).less fun _ z => z.wg
  hid := fun a h => R.hid a (List.mem_append_right _ h)
theorem Gd.wh {P : Program} {w : World} {base : Heap} {k : Nat} {N : List Str} {sc : Scope} {X : Cx} (G : Gd P w base k N sc X c) : Gd P w base k N sc X (c.wg gh hid) :=
  ⟨G.nd, G.prog, G.w, G.base, G.N, G.sc, G.K, G.mg, G.calm, G.room, G.takes, fun own env n σ H xd cls od R x q => by
    obtain ⟨C, x1, x2, x3⟩ := x
    refine G.link own env n σ H xd cls od R.ofW ⟨C, x1, x2, ?_⟩ q
    rcases x3 with x3 | ⟨d, fs, y1, y2, y3, y4⟩
    · exact .inl x3
    · exact .inr ⟨d, fs, y1, y2, y3, y4.less fun _ z => z.wg⟩, G.xlf⟩
/-- a value that waits to be stored -/
structure Pn (c : Cn) (n : Gn) (own : Nat → Option Addr) (H : Hp) (o : Bool) (v : V) (d : D) : Prop where
  f : o = false → Rp c.K c.dk H (AV c n own) v d
  t : o = true → ∃ p, v = .ref p ∧ ¬ IsDk c.dk n p ∧ Ow c.K c.dk H (AV c n own) p d
theorem av_one {a : Addr} (h : AV (c.wg [] [p]) n own a) : AV c n own a ∨ a = p := by
  rcases h with h | h | h | h
  · exact .inl (.inl h)
  · exact .inl (.inr (.inl h))
  · exact .inl (.inr (.inr (.inl h)))
  · rcases List.mem_append.mp h with h | h
    · exact .inr (List.mem_singleton.mp h)
    · exact .inl (.inr (.inr (.inr h)))
theorem av_none {a : Addr} {gh : List (V × D)} (h : AV (c.wg gh []) n own a) : AV c n own a := by
  rcases h with h | h | h | h
  · exact .inl h
  · exact .inr (.inl h)
  · exact .inr (.inr (.inl h))
  · exact .inr (.inr (.inr h))
/-- hidden from now on -/
theorem ER.hide (R : ER c own env n σ H) (hp : H p = none) (e : Ext c.dk n n' H H') (vi : VI c.K c.dk n' H') (nd : ¬ IsDk c.dk n' p) (pH : H' p ≠ none) : ER (c.wg [] [p]) own env n' σ H' := by
  have R' := R.go e vi
  have hB : ∀ a, AV (c.wg [] [p]) n' own a → AV c n own a ∨ H a = none := fun a z => (av_one z).elim (AV.up e) fun z => .inr (by rw [z]; exact hp)
  have md : ∀ {w : V} {b : D}, Rp c.K c.dk H (AV c n own) w b → Rp c.K c.dk H' (AV (c.wg [] [p]) n' own) w b := fun h => h.ext R.vi (fun _ z => AV.deck (c := c) z) e hB
  have nH0 : c.H0 p = none := Classical.byContradiction fun q => R.ext.kp p q hp
  refine ⟨vi, R'.ext, R.vi0, R.lo, fun j b h => ?_, fun j b h => ?_, R'.onl, R.inj, R.len, fun q h => ?_, fun a h => ?_⟩
  · obtain ⟨w, h1, h2⟩ := R.val j b h
    exact ⟨w, h1, md h2⟩
  · obtain ⟨q, h1, h2, h3⟩ := R.ow j b h
    exact ⟨q, h1, h2, h3.ext R.vi (fun _ z => AV.deck (c := c) z) e hB (R.onl j q h1).2.2.1⟩
  · exact md (R.gh q h)
  · rcases List.mem_append.mp h with h | h
    · rw [List.mem_singleton.mp h]
      exact ⟨nH0, nd, pH, fun j z => (R.onl j p z).2.2.2 hp⟩
    · exact R'.hid a h
/-- one more value waits -/
theorem stage (R : ER c own env n σ H) (e : Ext c.dk n n' H H') (vi : VI c.K c.dk n' H') (r : Rm c n' (AV c n' own) H H' (mdO o) v d) : ∃ gh hid, ER (c.wg gh hid) own env n' σ H' ∧ Pn (c.wg gh hid) n' own H' o v d ∧
    ((o = false ∧ gh = [(v, d)] ∧ hid = []) ∨ (o = true ∧ gh = [] ∧ ∃ p, v = .ref p ∧ hid = [p] ∧ p ∉ c.hid)) ∧ ∀ o2 w b, Pn c n own H o2 w b → Pn (c.wg gh hid) n' own H' o2 w b := by
  cases o with
  | false =>
    have r : Rp c.K c.dk H' (AV c n' own) v d := r
    have R' := (R.go e vi).toG (gh := [(v, d)]) fun p hp => by rw [List.mem_singleton.mp hp]; exact r
    refine ⟨[(v, d)], [], R', ⟨fun _ => r.less fun _ z => av_none z, fun z => (by cases z)⟩, .inl ⟨rfl, rfl, rfl⟩, fun o2 w b q => ⟨fun z => (Rp.ext R.vi (fun _ z => AV.deck z) e (fun _ z => AV.up e z) (q.f z)).less fun _ z => av_none z, fun z => ?_⟩⟩
    obtain ⟨p, h1, nd, h2⟩ := q.t z
    exact ⟨p, h1, IsDk.no e h2.ne nd, (h2.ext R.vi (fun _ z => AV.deck z) e (fun _ z => AV.up e z) nd).less fun _ z => av_none z⟩
  | true =>
    obtain ⟨p, e1, e2, e3, e4, e5⟩ := r
    obtain ⟨u, hu, _⟩ := e5.some_
    have R' := R.hide e2 e vi e3 (by rw [hu]; simp)
    have hB : ∀ a, AV (c.wg [] [p]) n' own a → AV c n own a ∨ H a = none := fun a z => (av_one z).elim (AV.up e) fun z => .inr (by rw [z]; exact e2)
    refine ⟨[], [p], R', ⟨fun z => (by cases z), fun _ => ⟨p, e1, e3, e5.less fun _ z => av_one z⟩⟩, .inr ⟨rfl, rfl, p, e1, rfl, fun z => (R.hid p z).2.2.1 e2⟩, fun o2 w b q => ⟨fun z => (q.f z).ext R.vi (fun _ z => AV.deck (c := c) z) e hB, fun z => ?_⟩⟩
    obtain ⟨p2, h1, nd, h2⟩ := q.t z
    exact ⟨p2, h1, IsDk.no e h2.ne nd, h2.ext R.vi (fun _ z => AV.deck (c := c) z) e hB nd⟩
/-- the last one is stored -/
theorem store (R : ER (c.wg gh hid) own env n σ H) (P : Pn (c.wg gh hid) n own H o v d) (form : (o = false ∧ gh = [(v, d)] ∧ hid = []) ∨ (o = true ∧ gh = [] ∧ ∃ p, v = .ref p ∧ hid = [p] ∧ p ∉ c.hid)) (hi : i < env.length) :
    ∃ own', ER c own' (env.set i (evO o d)) n (σ.set i (some v)) H ∧ ∀ o2 w b, Pn (c.wg gh hid) n own H o2 w b → Pn c n own' H o2 w b := by
  rcases form with ⟨rfl, rfl, rfl⟩ | ⟨rfl, rfl, p, rfl, rfl, np⟩
  · have r := (P.f rfl).less (B := AV c n own) fun _ z => z.wg
    refine ⟨drop1 own i, R.ofG.setV r, fun o2 w b q => ⟨fun z => (q.f z).less fun _ z => z.drop.wg, fun z => ?_⟩⟩
    obtain ⟨p, h1, nd, h2⟩ := q.t z
    exact ⟨p, h1, nd, h2.less fun _ z => z.drop.wg⟩
  · obtain ⟨p', e1, _, ow⟩ := P.t rfl
    cases e1
    have av : ∀ {a : Addr}, AV c n (own1 own i p) a → AV (c.wg [] [p]) n own a := fun {a} h => by
      rcases h.own1 with h | h
      · exact h.wg
      · rw [h]; exact .inr (.inr (.inr List.mem_cons_self))
    obtain ⟨h1, h2, h3, h4⟩ := R.hid p List.mem_cons_self
    refine ⟨own1 own i p, ⟨R.vi, R.ext, R.vi0, R.lo, fun j b q => ?_, fun j b q => ?_, fun j q h => ?_, fun j k q a b => ?_, by simp [R.len], fun q h => (R.gh q h).less fun _ z => av z, fun a h => ?_⟩, fun o2 w b q => ⟨fun z => (q.f z).less fun _ z => av z, fun z => ?_⟩⟩
    · rcases get_set q with ⟨rfl, hl, e⟩ | ⟨ne, q⟩
      · cases e
      · obtain ⟨w, q1, q2⟩ := R.val j b q
        exact ⟨w, set_get q1 ne, q2.less fun _ z => av z⟩
    · rcases get_set q with ⟨rfl, hl, e⟩ | ⟨ne, q⟩
      · cases e
        exact ⟨p, by unfold own1; rw [if_pos rfl], by rw [List.getElem?_set_self (by rw [R.len]; exact hl)], ow.less fun _ z => av z⟩
      · obtain ⟨p2, q1, q2, q3⟩ := R.ow j b q
        exact ⟨p2, by unfold own1; rw [if_neg ne]; exact q1, set_get q2 ne, q3.less fun _ z => av z⟩
    · rcases own_some h with ⟨rfl, rfl⟩ | ⟨ne, h⟩
      · exact ⟨⟨d, by rw [List.getElem?_set_self hi]; rfl⟩, h1, h2, h3⟩
      · obtain ⟨⟨b, q1⟩, q2⟩ := R.onl j q h
        exact ⟨⟨b, set_get q1 ne⟩, q2⟩
    · rcases own_some a with ⟨e1, e2⟩ | ⟨_, a2⟩
      · rcases own_some b with ⟨e3, _⟩ | ⟨_, b2⟩
        · rw [e1, e3]
        · exact absurd (e2 ▸ b2) (h4 k)
      · rcases own_some b with ⟨_, e4⟩ | ⟨_, b2⟩
        · exact absurd (e4 ▸ a2) (h4 j)
        · exact R.inj j k q a2 b2
    · obtain ⟨a1, a2, a3, a4⟩ := R.hid a (List.mem_append_right _ h)
      refine ⟨a1, a2, a3, fun j z => ?_⟩
      rcases own_some z with ⟨_, e⟩ | ⟨_, z⟩
      · exact np (e ▸ h)
      · exact a4 j z
    · obtain ⟨p2, q1, nd, q2⟩ := q.t z
      exact ⟨p2, q1, nd, q2.less fun _ z => av z⟩
end
/-! the statement -/
def par2S (i : Nat) (oi : Bool) (a : DE) (j : Nat) (oj : Bool) (b : DE) : DS := fun env k X n => a env n (fun d n1 => b env n1 (fun e n2 => (i < env.length ∧ j < env.length) ∧ k.nx ((env.set i (evO oi d)).set j (evO oj e)) n2) (X env)) (X env)
def par3S (i : Nat) (oi : Bool) (a : DE) (j : Nat) (oj : Bool) (b : DE) (l : Nat) (ol : Bool) (g : DE) : DS := fun env k X n =>
  a env n (fun d n1 => b env n1 (fun e n2 => g env n2 (fun f n3 => (i < env.length ∧ j < env.length ∧ l < env.length) ∧ k.nx (((env.set i (evO oi d)).set j (evO oj e)).set l (evO ol f)) n3) (X env)) (X env)) (X env)
section
variable {P : Program} {w : World} {base : Heap} {k : Nat} {N : List Str} {sc : Scope} {X : Cx} {c : Cn} {pos pt pt2 px py pz : Pos} {a b g : Expr} {ta tb tg : DE} {i j l : Nat} {oi oj ol : Bool} {x y z : Str}
theorem s_par2 (G : Gd P w base k N sc X c) (hi : N[i]? = some x) (hj : N[j]? = some y) (hij : decide (i ≠ j) = true) (hx : sc.names.lookup x = some .local) (hy : sc.names.lookup y = some .local) (ha : PE X a (tX c (mdO oi) ta)) (hb : ∀ gh hid, Gd P w base k N sc X (c.wg gh hid) → PE X b (tX (c.wg gh hid) (mdO oj) tb))
    (hs : starEach [a, b] X.env = (false, eval a X.env) :: starEach [b] X.env) (hs2 : starEach [b] X.env = (false, eval b X.env) :: starEach [] X.env)
    (hw : swappedStores [.Tuple [.Name x px, .Name y py] kt pt] (.Tuple [a, b] k2 pt2) X.env = pure (some [x, y])) (hs3 : swapsWithSole [.Tuple [.Name x px, .Name y py] kt pt] (.Tuple [a, b] k2 pt2) pos.line X.env = pure false) :
    PS X (.Assign [.Tuple [.Name x px, .Name y py] kt pt] (.Tuple [a, b] k2 pt2) pos) (tS c (par2S i oi ta j oj tb)) := by
  have hij := of_decide_eq_true hij
  have hb' : PE X b (fun σ H Q => ∃ gh hid, tX (c.wg gh hid) (mdO oj) tb σ H Q) := ⟨fun pins s σ H Q I h => by
    obtain ⟨gh, hid, h⟩ := h
    exact (hb gh hid G.wh).run pins s σ H Q I h⟩
  refine PS.imp (ps_par G.calm (by rw [G.N]; exact G.nd) (by rw [G.N]; exact hi) (by rw [G.N]; exact hj) hij (by rw [G.sc]; exact hx) (by rw [G.sc]; exact hy) (pa_cons ha (pa_cons hb' pa_nil hs2) hs) hw hs3) fun D σ H q => ?_
  obtain ⟨own, env, n, R, kk, ll, q⟩ := q
  refine ⟨own, env, n, R, _, q, fun d n1 v H1 q e1 vi1 r1 => ?_⟩
  obtain ⟨gh, hid, R1, P1, f1, _⟩ := stage R e1 vi1 r1
  refine ⟨gh, hid, own, env, n1, R1, _, q, fun b2 n2 u H2 q e2 vi2 r2 => ?_⟩
  obtain ⟨⟨l1, l2⟩, q⟩ := q
  obtain ⟨gh2, hid2, R2, P2, f2, tr2⟩ := stage R1 e2 vi2 r2
  have P1' := tr2 oi v d P1
  obtain ⟨own3, R3, tr3⟩ := store (i := j) R2 P2 f2 l2
  have P1'' := tr3 oi v d P1'
  obtain ⟨own4, R4, _⟩ := store (i := i) R3 P1'' f1 (by rw [List.length_set]; exact l1)
  refine ⟨v, u, rfl, ll.nx own4 _ n2 _ H2 q ?_⟩
  have c1 : (env.set i (evO oi d)).set j (evO oj b2) = (env.set j (evO oj b2)).set i (evO oi d) := List.set_comm _ _ hij
  have c2 : (σ.set i (some v)).set j (some u) = (σ.set j (some u)).set i (some v) := List.set_comm _ _ hij
  rw [c1, c2]
  exact R4
end
end DL
namespace DL
open PySem PySem.Spec L2
section
variable {P : Program} {w : World} {base : Heap} {k : Nat} {N : List Str} {sc : Scope} {X : Cx} {c : Cn} {a b g : Expr} {x y z : Str} {px py pz pt pt2 : Pos}
def starB : Expr → Bool
  | .Starred .. => true
  | _ => false
/-- the names are stored one by one, no tuple is made -/
def parB (sc : Scope) (ns : List (Str × Pos)) (vs : List Expr) : Bool :=
  ((if sc.kind.isAnnotationScope then ScopeKind.function else sc.kind) == .function) && ns.all (fun p => sc.names.lookup p.1 == some .local && p.2.line == ((ns.head?.map (·.2.line)).getD 0)) && ((ns.map (·.1)).eraseDups.length == ns.length) && !vs.any starB && !vs.all (foldedForSure 8) && !vs.all (constantsAlone 8) && vs.length == ns.length
theorem sw_par2 {kt k2} (G : Gd P w base k N sc X c) (h : parB sc [(x, px), (y, py)] [a, b] = true) : swappedStores [.Tuple [.Name x px, .Name y py] kt pt] (.Tuple [a, b] k2 pt2) X.env = pure (some [x, y]) := by
  unfold parB at h
  simp only [Bool.and_eq_true, Bool.not_eq_true', List.all_cons, List.all_nil, Bool.and_true, List.map_cons, List.map_nil, List.head?_cons, Option.map_some, Option.getD_some] at h
  obtain ⟨⟨⟨⟨⟨⟨h1, ⟨h2, h3⟩, h4, h5⟩, h6⟩, h7⟩, h8⟩, h9⟩, _⟩ := h
  unfold swappedStores Env.blockKind Env.kindOf
  rw [G.sc]
  have k1 : ((if sc.kind.isAnnotationScope = true then ScopeKind.function else sc.kind) != .function) = false := by rw [bne, h1]; rfl
  have e6 : ([x, y] : List Str).eraseDups.length = 2 := by simpa using h6
  have st : ∀ f : Expr → Bool, (∀ e, f e = starB e) → [a, b].any f = false := fun f hf => by rw [funext hf]; exact h7
  dsimp only
  rw [if_neg (by simp [k1]), if_neg (by rw [st _ (fun e => by cases e <;> rfl)]; exact Bool.false_ne_true)]
  have q3 : (Expr.Name x px).pos.line = px.line := rfl
  simp [h2, h4, h5, h8, h9, e6, q3, List.filterMap]
end
end DL

/-! part nineteen: get with a default, setdefault in a test, pop within append -/
namespace DL
open PySem PySem.Spec L2
/-! ### d.get(k, z) -/
def getT (ta tb tc : DE) : DE := fun env => bnd (ta env) fun d => match d with
  | .dct ks ds => bnd (tb env) fun k => bnd (tc env) fun z => match keyD k with
    | some x => ret ((atK ks ds x).getD z)
    | none => stop
  | _ => stop
section
variable {P : Program} {w : World} {base : Heap} {k : Nat} {N : List Str} {sc : Scope} {X : Cx} {c : Cn} {pos apos : Pos} {o e f g : Expr} {ta tb tc tg : DE} {me mb : Md} {i j : Nat} {x y : Str}
theorem Rp.ex {K : PySem.W.Frag} {dk : DkT} {n : Gn} {H H' : Hp} {A : Addr → Prop} {v : V} {d : D} (vi : VI K dk n H) (hA : ∀ a, IsDk dk n a → A a) (e : Ext dk n n' H H') {B : Addr → Prop} (hB : ∀ a, B a → A a ∨ H a = none) (r : Rp K dk H A v d) : Rp K dk H' B v d := Rp.ext vi hA e hB r
/-! ### if d.setdefault(k, v) != g: .. -/
def sdN (l : List Key × List D) (x : Key) (v : D) : D := if hasK l.1 x = true then .dct l.1 l.2 else .dct (putL l.1 l.2 x v).1 (putL l.1 l.2 x v).2
def sdfS (i : Nat) (tk tv tg : DE) (A B : DS) : DS := fun env k X n => match ownK env i with
  | some l => tk env n (fun dk n1 => tv env n1 (fun dv n2 => match keyD dk with
    | some x => l.1.length < sizeLine ∧ tg (env.set i (.own (sdN l x dv))) n2 (fun dg n3 => neD ((atK l.1 l.2 x).getD dv) dg n3 (fun d n4 =>
        (d = .bl true → A (env.set i (.own (sdN l x dv))) k X n4) ∧ (d = .bl false → B (env.set i (.own (sdN l x dv))) k X n4) ∧ (d = .bl true ∨ d = .bl false)) (X (env.set i (.own (sdN l x dv))))) (X (env.set i (.own (sdN l x dv))))
    | none => False) (X env)) (X env)
  | none => False
/-! ### a.append(b.pop(e)) -/
def apopS (i j : Nat) (te : DE) : DS := fun env k X n => match ownL env i, ownL env j with
  | some la, some lb => te env n (fun d n1 => match d with
    | .int z => match seqIndex? z lb.length with
      | some m => match lb[m]? with
        | some y => (la.length < sizeLine ∧ -(2 ^ 63) ≤ z ∧ z < 2 ^ 63) ∧ k.nx ((env.set j (.own (.lst (lb.eraseIdx m)))).set i (.own (.lst (la ++ [y])))) n1
        | none => False
      | none => False
    | _ => False) (X env)
  | _, _ => False
theorem RpL.erase {K : PySem.W.Frag} {dk : DkT} {H : Hp} {A : Addr → Prop} : ∀ {vs : List V} {ds : List D} (m : Nat), RpL K dk H A vs ds → RpL K dk H A (vs.eraseIdx m) (ds.eraseIdx m)
  | _, _, m, .nil => by simp; exact .nil
  | _, _, 0, .cons _ t => by simpa using t
  | _, _, m + 1, .cons r t => by
    simp only [List.eraseIdx_cons_succ]
    exact .cons r (RpL.erase m t)
end
end DL

/-! part twenty: sorted(a list) -/
namespace DL
open PySem PySem.Spec L2 PySem.W
def alkB (l : List D) : Bool := l.all fun a => l.all fun b => alike (py a) (py b)
def tupB (l : List D) : Bool := l.all fun a => match a with | .tup (_ :: _) => true | _ => false
def flatB (l : List D) : Bool := l.all fun a => match a with | .bl _ | .int _ | .str _ | .lst _ => true | _ => false
def leDT (a b : D) : Bool := dataLe false py a b
def oneB (l : List D) : Bool := decide (l.length ≤ 1) && l.all fun a => !isNo a
def srtOk (l : List D) : Bool := l.all cmpOk && alkB l && (tupB l || flatB l || oneB l)
def sortD (a : D) : Mo D := match a with
  | .lst l => need (srtOk l = true) (ret (.lst (l.mergeSort leDT)))
  | _ => stop
def rSortD (K : PySem.W.Frag) : List V → Hp → VK → Prop := fun vs H Q => ∃ (a : Addr) (ks : List (V × D)), vs = [.ref a] ∧ SqL K H a (ks.map (·.1)) ∧ (∀ p ∈ ks, Dp K H p.1 (py p.2)) ∧ srtOk (ks.map (·.2)) = true ∧
  ∀ p, H p = none → Q (.ref p) (upd H p (.lst ((ks.mergeSort fun x y => leDT x.2 y.2).map (·.1))))
section
variable {X : Cx}
variable {P : Program} {w : World} {base : Heap} {k : Nat} {N : List Str} {sc : Scope} {c : Cn} {pos : Pos}
end
end DL

/-! part twenty-one: a op b op c -/
namespace DL
open PySem PySem.Spec L2
def chT (ta : DE) (f : D → D → Mo D) (tb : DE) (g : D → D → Mo D) (tc : DE) : DE := fun env => bnd (ta env) fun a => bnd (tb env) fun b => bnd (f a b) fun d => iteM d (bnd (tc env) fun e => g b e) (ret (.bl false))
section
variable {c : Cn} {ma mb mc : Md} {ta tb tc : DE} {r r' : R2} {f g : D → D → Mo D} {σ : St} {H : Hp} {Q : VK}
end
section
variable {P : Program} {w : World} {base : Heap} {k : Nat} {N : List Str} {sc : Scope} {X : Cx} {c : Cn} {pos : Pos} {a b e : Expr} {ta tb tc : DE} {ma mb mc : Md}
end
/-! a module's constant -/
inductive PlD : D → V → Prop
  | int (i : Int) : PlD (.int i) (.int i)
  | str {x : Str} : PyData.strOk x = true → PlD (.str x) (.str x)
theorem PlD.rp {K : PySem.W.Frag} {dk : DkT} {H : Hp} {A : Addr → Prop} {d : D} {v : V} (h : PlD d v) : Rp K dk H A v d := by
  cases h with
  | int i => exact .int i
  | str h => exact .str h
def GlC (mg : Str → Option Value) (x : Str) (d : D) : Prop := ∃ u v, mg x = some u ∧ RelV v u ∧ PlD d v
theorem GlC.ofS {mg : Str → Option Value} {x y : Str} {u : Value} (h : mg x = some u) (r : RelV (.str y) u) (ok : PyData.strOk y = true) : GlC mg x (.str y) := ⟨u, _, h, r, .str ok⟩
theorem GlC.at {mg mg' : Str → Option Value} {x : Str} {d : D} (hm : mg' = mg) (h : GlC mg x d) : GlC mg' x d := hm ▸ h
section
variable {P : Program} {w : World} {base : Heap} {k : Nat} {N : List Str} {sc : Scope} {X : Cx} {c : Cn} {pos : Pos}
end
end DL

/-! part twenty-two: x[::-1] -/
namespace DL
open PySem PySem.Spec L2 PyProof.Rows
section
variable {prog : Program} {w : World} {A : Around} {E : Value → Shared → Prop} {s : Shared}
end
section
variable {X : Cx}
def rRev (K : PySem.W.Frag) : V → Hp → VK → Prop := fun x H Q => ∃ a xs, x = .ref a ∧ ((SqL K H a xs ∧ ∀ p, H p = none → Q (.ref p) (upd H p (.lst xs.reverse))) ∨ (SqT K H a xs ∧ NewT H xs.reverse Q))
end
def revD : D → Mo D
  | .lst l => ret (.lst l.reverse)
  | .tup l => ret (.tup l.reverse)
  | _ => stop
section
variable {P : Program} {w : World} {base : Heap} {k : Nat} {N : List Str} {sc : Scope} {X : Cx} {c : Cn} {pos : Pos} {e : Expr} {te : DE} {me : Md}
end
end DL

/-! part twenty-three: {k: v} -/
namespace DL
open PySem PySem.Spec L2
def dsp1T (tk tv : DE) : DE := fun env => bnd (tk env) fun kd => bnd (tv env) fun vd => match keyD kd with
  | some k => ret (.dct [k] [vd])
  | none => stop
section
variable {P : Program} {w : World} {base : Heap} {k : Nat} {N : List Str} {sc : Scope} {X : Cx} {c : Cn} {pos : Pos} {a b : Expr} {ta tb : DE}
end
end DL

/-! part twenty-four: defs that call themselves -/
namespace DL
open PySem PySem.Spec L2
def noS : DS := fun _ _ _ _ => False
end DL

/-! part twenty-five: sorted(d.items()) -/
namespace DL
open PySem PySem.Spec L2 PyProof.Rows PySem.W LiI
def ViewO (r d : Addr) : HO := .ext fun h => h.IsItemsView r d
section
variable {X : Cx}
def rItems : V → Hp → VK → Prop := fun x H Q => ∃ (d : Addr) (kvs : List (Key × V)), x = .ref d ∧ Rd H d (.dK kvs) ∧ ∀ r, H r = none → Q (.ref r) (upd H r (ViewO r d))
def refsOf (ks : List (Addr × D)) : List V := ks.map fun p => V.ref p.1
/-- sorted(d.items()) -/
def rSortI (K : PySem.W.Frag) : List V → Hp → VK → Prop := fun xs H Q => ∃ (r d : Addr) (kvs : List (Key × V)) (ds : List D), xs = [.ref r] ∧ H r = some (ViewO r d) ∧ Rd H d (.dK kvs) ∧ ds.length = kvs.length ∧ srtOk ds = true ∧
  (∀ (H' : Hp) (as : List Addr), (∀ b o, H b = some o → H' b = some o) → Paired (fun (t : Addr) (q : Key × V) => H' t = some (.tup [kV q.1, q.2])) as kvs → Paired (fun (t : Addr) (e : D) => Dp K H' (.ref t) (py e)) as ds) ∧
  ∀ (H' : Hp) (p : Addr) (as : List Addr), (∀ b o, H b = some o → H' b = some o) → (∀ t ∈ as, H t = none) → (∀ b, b ∉ as → H' b = H b) → Paired (fun (t : Addr) (q : Key × V) => H' t = some (.tup [kV q.1, q.2])) as kvs → H' p = none →
    Q (.ref p) (upd H' p (.lst (refsOf ((as.zip ds).mergeSort fun x y => leDT x.2 y.2))))
end
end DL

/-! part twenty-six: comprehensions with two clauses -/
namespace DL
open PySem PySem.Spec L2
def lcL2 (tg : Tg) (tt : DE) (it1 : DI) (tg1 : Tg) (tt1 te : DE) (vs1 : List Nat) (env : Env') : List D → List D → Mo (List D)
  | [], acc => ret acc
  | d :: ds, acc => match stT tg d env with
    | some env1 => bnd (tt env1) fun b => iteL b (bnd (it1 env1) fun ds1 => bnd (lcL tg1 tt1 te (killE vs1 env1) ds1 acc) fun acc' => lcL2 tg tt it1 tg1 tt1 te vs1 env ds acc') (lcL2 tg tt it1 tg1 tt1 te vs1 env ds acc)
    | none => stop
def lcT2 (tg : Tg) (it : DI) (tt : DE) (tg1 : Tg) (it1 : DI) (tt1 te : DE) (vs vs1 : List Nat) : DE := fun env => bnd (it env) fun ds => need (noOwn vs env = true) (bnd (noX (lcL2 tg tt it1 tg1 tt1 te vs1 (killE vs env) ds [])) fun l => ret (.lst l))
def anyI (c : Cn) (t : DI) : TI := fun σ H R => ∃ gh L, tI (c.blk gh L) t σ H R
section
variable {c : Cn} {own : Nat → Option Addr} {env : Env'} {n : Gn} {σ : St} {H : Hp} {vs : List Nat}
end
section
variable {P : Program} {w : World} {base : Heap} {k : Nat} {N : List Str} {sc : Scope} {X : Cx} {c : Cn}
variable {elt tge iter tge1 iter1 : Expr} {ifs ifs1 : List Expr} {scope : Scope} {pos : Pos} {tg tg1 : Tg} {it it1 : DI} {tt tt1 te : DE}
end
end DL

/-! part twenty-seven: list(zip(a, b)) of lists and tuples -/
namespace DL
open PySem PySem.Spec
section
variable {prog : Program} {w : World} {A : Around} {E : Value → Shared → Prop} {s : Shared} {z TI TO i1 i2 : Addr} {fp1 fp2 : List Addr} {n1 n2 i : Nat} {P1 P2 : Nat → Value → Prop} {St1 St2 : Nat → Heap → Prop}
/-- where the zip stands ahead of turn i -/
def ZSt (z TI TO i1 i2 : Addr) (St1 St2 : Nat → Heap → Prop) (lo i : Nat) (h : Heap) : Prop := IsTupOf2 h TI (.ref i1) (.ref i2) ∧ St1 i h ∧ St2 i h ∧ ((IsZip h z TI TO .none ∧ ∃ a1 a2, IsTupOf2 h TO a1 a2) ∨ ∃ (T : Addr) (f : Bool) (oT : Obj), lo ≤ T ∧ IsZipHeld h z TI TO T f ∧ h.get? T = some oT)
/-- the pairs drawn -/
structure ZPs (P1 P2 : Nat → Value → Prop) (lo : Nat) (h : Heap) (as : List Addr) : Prop where
  rise : as.Pairwise (· < ·)
  lo : ∀ t ∈ as, lo ≤ t
  lt : ∀ t ∈ as, t < h.objs.size
  pairs : ∀ j t, as[j]? = some t → ∃ x y, P1 j x ∧ P2 j y ∧ IsTupOf2 h t x y
theorem ZPs.keep {lo : Nat} {h h' : Heap} {as : List Addr} (Z : ZPs P1 P2 lo h as) (hk : ∀ b o, lo ≤ b → h.get? b = some o → h'.get? b = some o) (hs : h.objs.size ≤ h'.objs.size) : ZPs P1 P2 lo h' as :=
  ⟨Z.rise, Z.lo, fun t ht => Nat.lt_of_lt_of_le (Z.lt t ht) hs, fun j t e => by
    obtain ⟨x, y, h1, h2, h3⟩ := Z.pairs j t e
    exact ⟨x, y, h1, h2, hk _ _ (Z.lo t (List.mem_of_getElem? e)) h3⟩⟩
end
end DL

namespace DL
open PySem PySem.Spec
section
variable {prog : Program} {w : World} {A : Around} {E : Value → Shared → Prop} {s : Shared} {z TI TO i1 i2 : Addr} {fp1 fp2 : List Addr} {n1 n2 i : Nat} {P1 P2 : Nat → Value → Prop} {St1 St2 : Nat → Heap → Prop}
end
end DL

/-! part twenty-eight: list(zip(a, b)) as an expression -/
namespace DL
open PySem PySem.Spec L2 PyProof.Rows LiI
/-- the tuples tracked at their addresses -/
def putZ : Hp → List Addr → List (V × V) → Hp
  | H, a :: as, p :: kvs => putZ (upd H a (.tup [p.1, p.2])) as kvs
  | H, _, _ => H
def rLzip (K : PySem.W.Frag) : List V → Hp → VK → Prop := fun xs H Q => ∃ (a b : Addr) (l m : List V), xs = [.ref a, .ref b] ∧ (SqL K H a l ∨ SqT K H a l) ∧ (SqL K H b m ∨ SqT K H b m) ∧
  ∀ (H' : Hp) (p : Addr) (as : List Addr), (∀ b o, H b = some o → H' b = some o) → H p = none → (∀ t ∈ as, H t = none) → p ∉ as → (∀ b, b ∉ as → b ≠ p → H' b = H b) → H' p = some (.lst (as.map V.ref)) → Paired (fun (t : Addr) (q : V × V) => H' t = some (.tup [q.1, q.2])) as (l.zip m) → Q (.ref p) H'
section
variable {X : Cx}
/-- how a source begins, what it draws -/
structure Src (prog : Program) (w : World) (h : Heap) (v : Value) (its : List Value) : Prop where
  ex : ∃ (a : Addr) (o : Obj) (H : Heap → Prop) (St : Addr → Nat → Heap → Prop), v = .ref a ∧ a < h.objs.size ∧ Begins v o H ∧ H h ∧
    (∀ I, a ≠ I → ∀ A : Around, A.handled = none → Draws prog w A I [I, a] its.length (fun i x => its[i]? = some x) (St I)) ∧ ∀ I h', h'.get? I = some o → (∀ b u, h.get? b = some u → h'.get? b = some u) → St I 0 h'
end
def lzipD (a b : D) : Mo D := match rowD a, rowD b with
  | some l, some m => need (zipOk l m = true) (ret (.lst (List.zipWith (fun x y => .tup [x, y]) l m)))
  | _, _ => stop
section
variable {P : Program} {w : World} {base : Heap} {k : Nat} {N : List Str} {sc : Scope} {X : Cx} {c : Cn} {pos pos2 p p2 : Pos} {e e2 : Expr} {te tf : DE} {me mf : Md}
end
end DL

/-! part twenty-nine: sorted(d.items()) as an expression -/
namespace DL
open PySem PySem.Spec L2 PyProof.Rows LiI
def kDt : Key → D
  | .inl i => .int i
  | .inr s => .str s
def kOk : Key → Bool
  | .inl _ => true
  | .inr s => PyData.strOk s
def itL (ks : List Key) (vs : List D) : List D := List.zipWith (fun k v => .tup [kDt k, v]) ks vs
def sortID (a : D) : Mo D := match a with
  | .dct ks vs => need (srtOk (itL ks vs) = true ∧ ks.all kOk = true) (ret (.lst ((itL ks vs).mergeSort leDT)))
  | _ => stop
section
variable {P : Program} {w : World} {base : Heap} {k : Nat} {N : List Str} {sc : Scope} {X : Cx} {c : Cn} {pos apos cpos p : Pos} {e : Expr} {te : DE} {me : Md}
end
end DL

/-! part thirty: min(list), min(list, key=len) -/
namespace DL
open PySem PySem.Spec L2 PyProof.Rows PySem.W
def minOk (l : List D) : Bool := l.all cmpOk && alkB l && l.all (fun a => !isNo a)
def minL (x : D) (xs : List D) : D := xs.foldl (fun a y => if dataLt (py y) (py a) = true then y else a) x
def minDD (a : D) : Mo D := match a with
  | .lst (x :: xs) => need (minOk (x :: xs) = true) (ret (minL x xs))
  | _ => stop
def rMinDat (K : PySem.W.Frag) : List V → Hp → VK → Prop := fun vs H Q => ∃ (a : Addr) (xs : List V) (y : D) (ds : List D), vs = [.ref a] ∧ SqL K H a xs ∧ DpAll K H xs (pyL (y :: ds)) ∧ minOk (y :: ds) = true ∧ ∀ (i : Nat) v, xs[i]? = some v → (y :: ds)[i]? = some (minL y ds) → Q v H
section
variable {X : Cx}
variable {P : Program} {w : World} {base : Heap} {k : Nat} {N : List Str} {sc : Scope} {c : Cn} {pos : Pos}
end
/-! ### key=len -/
def lenO : D → Option Nat
  | .tup l => some l.length
  | .lst l => some l.length
  | _ => none
def lenB (a b : D) : Bool := decide ((lenO a).getD 0 < (lenO b).getD 0)
def minKL (x : D) (xs : List D) : D := xs.foldl (fun a y => if lenB y a = true then y else a) x
def minKD (a : D) : Mo D := match a with
  | .lst (x :: xs) => need ((x :: xs).all (fun d => match d with | .tup _ => true | _ => false) = true) (ret (minKL x xs))
  | _ => stop
def rMinKey (K : PySem.W.Frag) : List V → Hp → VK → Prop := fun vs H Q => ∃ (a : Addr) (xs : List V) (y : D) (ds : List D), vs = [.ref a] ∧ SqL K H a xs ∧ xs.length = ds.length + 1 ∧ (∀ (i : Nat) v, xs[i]? = some v → ∃ p zs, v = .ref p ∧ SqT K H p zs ∧ lenO ((y :: ds).getD i .non) = some zs.length) ∧ ∀ (i : Nat) v, xs[i]? = some v → (y :: ds)[i]? = some (minKL y ds) → Q v H
section
variable {X : Cx}
variable {P : Program} {w : World} {base : Heap} {k : Nat} {N : List Str} {sc : Scope} {c : Cn} {pos p kp kpos : Pos} {e : Expr} {te : DE} {me : Md}
end
end DL

/-! part thirty-one: a comprehension stored without a swap -/
namespace DL
open PySem PySem.Spec L2
section
variable {P : Program} {w : World} {base : Heap} {k : Nat} {N : List Str} {sc : Scope} {X : Cx} {c : Cn} {elt : Expr} {gs : List Comprehension} {scope : Scope} {pos py : Pos} {y : Str} {l : Nat}
end
end DL

/-! part thirty-two: {k: v, l: w} -/
namespace DL
open PySem PySem.Spec L2
def dsp2T (tk tv tl tw : DE) : DE := fun env => bnd (tk env) fun kd => bnd (tv env) fun vd => bnd (tl env) fun ld => bnd (tw env) fun wd => match keyD kd, keyD ld with
  | some k, some l => ret (.dct (mergeD [(k, vd), (l, wd)]).1 (mergeD [(k, vd), (l, wd)]).2)
  | _, _ => stop
section
variable {P : Program} {w : World} {base : Heap} {k : Nat} {N : List Str} {sc : Scope} {X : Cx} {c : Cn} {pos : Pos} {a b a2 b2 : Expr} {ta tb ta2 tb2 : DE}
end
end DL

/-! part thirty-three: xs == [], xs != [] of any lists -/
namespace DL
open PySem PySem.Spec L2
def eqZD (a b : D) : Mo D := match a, b with
  | .lst l, .lst [] => ret (.bl l.isEmpty)
  | _, _ => stop
def neZD (a b : D) : Mo D := match a, b with
  | .lst l, .lst [] => ret (.bl (!l.isEmpty))
  | _, _ => stop
def rEqZ (K : PySem.W.Frag) : R2 := fun x y H Q => ∃ a b xs, x = .ref a ∧ y = .ref b ∧ SqL K H a xs ∧ SqL K H b [] ∧ Q (.bl xs.isEmpty) H
def rNeZ (K : PySem.W.Frag) : R2 := fun x y H Q => ∃ a b xs, x = .ref a ∧ y = .ref b ∧ SqL K H a xs ∧ SqL K H b [] ∧ Q (.bl (!xs.isEmpty)) H
section
variable {X : Cx}
variable {P : Program} {w : World} {base : Heap} {k : Nat} {N : List Str} {sc : Scope} {c : Cn} {ma mb : Md}
end
end DL

/-! part thirty-four: a pair stored where one of the names is a cell: no swap -/
namespace DL
open PySem PySem.Spec L2
section
variable {P : Program} {w : World} {base : Heap} {k : Nat} {N : List Str} {sc : Scope} {X : Cx} {c : Cn} {a b : Expr} {x y : Str} {px py pt pt2 : Pos}
end
end DL

/-! part thirty-five: a list unpacked into names -/
namespace DL
open PySem PySem.Spec L2 PyProof.Rows
def unlS (is : List Nat) (e : DE) : DS := fun env k X n => e env n (fun d n' => match d with | .lst ds => if ds.length = is.length then k.nx (setAll is ds env) n' else False | _ => False) (X env)
section
variable {P : Program} {w : World} {base : Heap} {k : Nat} {N : List Str} {sc : Scope} {X : Cx} {c : Cn} {te : DE}
end
end DL

set_option maxHeartbeats 1000000
/-! part thirty-six: enumerate of a tuple -/
namespace DL
open PySem PySem.Spec L2 PyProof.Rows
def IteT (K : PySem.W.Frag) (a : Addr) : It :=
  ⟨fun i H => ∃ (xs : List V) (x : V), SqT K H a xs ∧ xs[i]? = some x, fun i H v H' => ∃ T x, v = .ref T ∧ H T = none ∧ H' = upd H T (.tup [.int (i : Nat), x]) ∧ ∀ xs, SqT K H a xs → xs[i]? = some x, fun i H => ∃ xs : List V, SqT K H a xs ∧ xs.length ≤ i⟩
section
variable {prog : Program} {w : World} {A : Around} {E : Value → Shared → Prop} {s : Shared}
end
def iEnumA (K : PySem.W.Frag) (ta : TA) : TI := fun σ H R => ta σ H fun vs H1 => ∃ a xs, vs = [.ref a] ∧ ((SqT K H1 a xs ∧ R (IteT K a) H1) ∨ (SqL K H1 a xs ∧ R (Ite K a) H1))
/-- numbered -/
def enR : Nat → List D → List D
  | _, [] => []
  | i, d :: l => .tup [.int (i : Nat), d] :: enR (i + 1) l
def enuD (a : D) : Mo (List D) := match a with
  | .tup l => ret (enR 0 l)
  | .lst l => ret (enR 0 l)
  | _ => stop
def enuI (t : DE) : DI := fun env => bnd (t env) enuD
section
variable {P : Program} {w : World} {base : Heap} {k : Nat} {N : List Str} {sc : Scope} {X : Cx} {c : Cn} {te : DE} {e : Expr} {p pos tpos : Pos}
end
end DL

/-! part thirty-seven: three stored at once where one of the names is a cell: no swap -/
namespace DL
open PySem PySem.Spec L2
section
variable {P : Program} {w : World} {base : Heap} {k : Nat} {N : List Str} {sc : Scope} {X : Cx} {c : Cn} {a b g : Expr} {x y z : Str} {px py pz pt pt2 : Pos}
end
end DL

/-! part thirty-eight: raise C() of an own class without fields; try .. except C: suite -/
namespace DL
open PySem PySem.Spec L2
def veB : List Value := [.type "ValueError", .type "Exception", .type "BaseException", .type "object"]
/-- an own class of errors over ValueError without own __init__ -/
def ExK (K : PySem.W.Frag) (mg : Str → Option Value) (x : Str) : Prop := ∃ C, mg x = some (.ref C) ∧ PySem.W.excIn K C veB "ValueError.__new__" = true ∧ PySem.W.keepIn K (.ref C) = true ∧
  PySem.W.subIn K (.ref C) (.type "BaseException") = some true ∧ PySem.W.typeIn K (.ref C) = some (.type "type") ∧ PySem.W.exmOne K (.ref C) (.ref C) = some true
theorem exm_self {K : PySem.W.Frag} {S : Addr} (h1 : PySem.W.subIn K (.ref S) (.type "BaseException") = some true) (h2 : PySem.W.isClsIn K S = true) (h3 : PySem.W.typeIn K (.ref S) = some (.type "type")) (h4 : PySem.W.subIn K (.ref S) (.ref S) = some true) :
    PySem.W.exmOne K (.ref S) (.ref S) = some true := by
  have e1 : (PySem.W.subIn K (.ref S) (.type "BaseException") == some true) = true := by rw [h1] <;> rfl
  have e2 : ((PySem.W.clsIn K S).isSome && PySem.W.typeIn K (.ref S) == some (.type "type")) = true := by
    have h2' : (PySem.W.clsIn K S).isSome = true := h2
    rw [h2', h3] <;> rfl
  show (if (PySem.W.subIn K (.ref S) (.type "BaseException") == some true) = true then (if ((PySem.W.clsIn K S).isSome && PySem.W.typeIn K (.ref S) == some (.type "type")) = true then PySem.W.subIn K (.ref S) (.ref S) else none) else none) = some true
  rw [if_pos e1, if_pos e2]
  exact h4
def raiseS (x : Str) : DS := fun env _ X n => X env ⟨x, []⟩ n
/-- what is caught is told; other errors are not known to come -/
def tryS (cs : List Str) (b su : DS) : DS := fun env k X n => b env k (fun env' xd n' => xd.cls ∈ cs ∧ lfL (xd.fs.map (·.2)) = true ∧ su env' k X n') n
section
variable {P : Program} {w : World} {base : Heap} {k : Nat} {N : List Str} {sc : Scope} {X : Cx} {c : Cn}
/-- the context of a try's body -/
def Cn.tr (c : Cn) (W : WX) (Xq : Env' → XD → Gn → Prop) : Cn := { c with W := W, Xq := Xq }
theorem ER.tr {own : Nat → Option Addr} {env : Env'} {n : Gn} {σ : St} {H : Hp} {W : WX} {Xq : Env' → XD → Gn → Prop} (R : ER c own env n σ H) : ER (c.tr W Xq) own env n σ H :=
  ⟨R.vi, R.ext, R.vi0, R.lo, R.val, R.ow, R.onl, R.inj, R.len, R.gh, R.hid⟩
end
end DL

/-! part thirty-nine: max(list) of whole numbers -/
namespace DL
open PySem PySem.Spec L2
def maxD1 (a : D) : Mo D := match a with
  | .lst l => match intL l with
    | some (y :: ys) => ret (.int (ys.foldl max y))
    | _ => stop
  | _ => stop
section
variable {P : Program} {w : World} {base : Heap} {k : Nat} {N : List Str} {sc : Scope} {X : Cx} {c : Cn}
end
end DL

/-! part forty: a comprehension over the keys of a dict that a name holds: the dict is locked as long -/
namespace DL
open PySem PySem.Spec L2
def keyV : Key → D
  | .inl i => .int i
  | .inr s => .str s
def keyOk1 : Key → Bool
  | .inl _ => true
  | .inr s => PyData.strOk s
/-- the keys of the dict that slot i holds -/
def keyI (i : Nat) : DI := fun env => match env[i]? with
  | some (.val (.dct ks _)) => need (ks.all keyOk1 = true) (ret (ks.map keyV))
  | _ => stop
/-- what may be read stays -/
structure Sw (H H' : Hp) : Prop where
  rt : ∀ a xs, Rd H a (.tup xs) → Rd H' a (.tup xs)
  rk : ∀ a kvs, Rd H a (.dK kvs) → Rd H' a (.dK kvs)
  ls : ∀ a xs, H a = some (.lst xs) → H' a = some (.lst xs)
  fz : ∀ a o xs, H a = some (.frz o (.tup xs)) → H' a = some (.frz o (.tup xs))
section
variable {K : PySem.W.Frag} {dk : DkT} {H H' : Hp} {A : Addr → Prop}
theorem Sw.sqT (h : Sw H H') {a : Addr} {xs : List V} (r : SqT K H a xs) : SqT K H' a xs := r.imp (h.rt a _) id
theorem Sw.plT (h : Sw H H') {a : Addr} (r : PlT K H a) : PlT K H' a := by
  rcases r with ⟨o, xs, r, d⟩ | r
  · exact .inl ⟨o, xs, h.fz _ _ _ r, d⟩
  · exact .inr r
mutual
theorem Sw.rp (h : Sw H H') : ∀ {v : V} {d : D}, Rp K dk H A v d → Rp K dk H' A v d
  | _, _, .non => .non
  | _, _, .bl b => .bl b
  | _, _, .int i => .int i
  | _, _, .str s => .str s
  | _, _, .tup q t p => .tup (h.sqT q) (Sw.rpL h t) fun z => h.plT (p z)
  | _, _, .lst q n t => .lst (h.ls _ _ q) n (Sw.rpL h t)
  | _, _, .dct q n e t => .dct (h.rk _ _ q) n e (Sw.rpL h t)
  | _, _, .deck e => .deck e
  | _, _, .obj => .obj
theorem Sw.rpL (h : Sw H H') : ∀ {vs : List V} {ds : List D}, RpL K dk H A vs ds → RpL K dk H' A vs ds
  | _, _, .nil => .nil
  | _, _, .cons r t => .cons (Sw.rp h r) (Sw.rpL h t)
end
end
/-- another heap at the start -/
def Cn.hz (c : Cn) (H0 : Hp) : Cn := { c with H0 := H0, W := fun _ _ _ _ => False, Xq := fun _ _ _ => False }
/-- the heap at the start, the dict at d locked in it too -/
def lkH (H0 : Hp) (d : Addr) (u : HO) : Hp := fun a => if a = d then (match H0 d with | none => none | some _ => some u) else H0 a
def anyEH (c : Cn) (t : DE) : TE := fun σ H Q => ∃ c', (∃ H0, c' = c.hz H0 ∨ c' = c) ∧ anyE c' t σ H Q
def anyTH (c : Cn) (t : DE) : TT := fun σ H Q => ∃ c', (∃ H0, c' = c.hz H0 ∨ c' = c) ∧ anyT c' t σ H Q
theorem Gd.hz {P : Program} {w : World} {base : Heap} {k : Nat} {N : List Str} {sc : Scope} {X : Cx} {c : Cn} {H0 : Hp} (G : Gd P w base k N sc X c) : Gd P w base k N sc X (c.hz H0) :=
  ⟨G.nd, G.prog, G.w, G.base, G.N, G.sc, G.K, G.mg, G.calm, G.room, takes0, fun _ _ _ _ _ _ _ _ _ _ q => q.elim, fun _ _ _ q => q.elim⟩
section
variable {P : Program} {w : World} {base : Heap} {k : Nat} {N : List Str} {sc : Scope} {X : Cx} {c : Cn}
variable {elt tge : Expr} {ifs : List Expr} {scope : Scope} {pos p0 : Pos} {tg : Tg} {tt te : DE} {x : Str}
end
end DL

/-! part forty-one: one tuple or, if it is empty, another -/
namespace DL
open PySem PySem.Spec L2
/-- int(text) -/
def intSD : D → Mo D
  | .str s => match PySem.intText? s with
    | some m => need (s.length ≤ 640) (ret (.int m))
    | none => stop
  | _ => stop
def orV (ta tb : DE) : DE := fun env => bnd (ta env) fun d => match d with
  | .tup [] => tb env
  | .tup (x :: l) => ret (.tup (x :: l))
  | _ => stop
section
variable {P : Program} {w : World} {base : Heap} {k : Nat} {N : List Str} {sc : Scope} {X : Cx} {c : Cn}
end
theorem exk_of {K K' : PySem.W.Frag} {mg mg' : Str → Option Value} {x : Str} (hK : K' = K) (hm : mg' = mg) (h : ExK K mg x) : ExK K' mg' x := by
  rw [hK, hm]; exact h
end DL

/-! part forty-two: zip of two tuples, the pairs known as objects; a plain name as target -/
namespace DL
open PySem PySem.Spec
/-- a zip, whatever it knows of the pair that it gave out last -/
abbrev ZGen (h : Heap) (z TI TO : Addr) (f0 : Value) (b : Bool) : Prop :=
  h.get? z = some { cls := .type "zip", dict := none, data := .fields #[f0, .bool b, .bool false, .ref TI, .ref TO], slots := #[] }
section
variable {prog : Program} {w : World} {A : Around} {E : Value → Shared → Prop} {s : Shared} {z TI TO i1 i2 : Addr} {fp1 fp2 : List Addr} {n1 n2 i : Nat} {P1 P2 : Nat → Value → Prop} {St1 St2 : Nat → Heap → Prop} {a1 a2 f0 : Value} {fb : Bool}
/-- nobody else has the pair -/
def FreeZ (prog : Program) (w : World) (z : Addr) (s : Shared) : Prop := ∀ (A : Around) (E : Value → Shared → Prop) (Q : Bool → Shared → Prop), Q true s → wpAny (model prog w) A (Builtin.SmallTypes.ownedTupleIsFree (.ref z)) Q E s
/-- where a zip stands that gives out pairs which may be kept -/
def ZAny (z TI TO i1 i2 : Addr) (h : Heap) : Prop := IsTupOf2 h TI (.ref i1) (.ref i2) ∧ (∃ a1 a2, IsTupOf2 h TO a1 a2) ∧ ∃ f0 fb, ZGen h z TI TO f0 fb ∧ (f0 = .none ∨ ∃ T : Addr, f0 = rawInt T)
end
end DL

namespace DL
open PySem PySem.Spec L2 PyProof.Rows LiI
/-- the tuples at a and b, the items in new pairs whose objects are known -/
def ItzF (K : PySem.W.Frag) (a b : Addr) (N M : Nat) : It :=
  ⟨fun i H => ∃ (l m : List V) (x y : V), SqT K H a l ∧ SqT K H b m ∧ (l.length = N ∧ m.length = M) ∧ l[i]? = some x ∧ m[i]? = some y,
    fun i H v H' => ∃ (p : Addr) (o : Obj) (x y : V), v = .ref p ∧ H p = none ∧ o.dict = none ∧ H' = upd H p (.frz o (.tup [x, y])) ∧ (∀ l, SqT K H a l → l[i]? = some x) ∧ ∀ m, SqT K H b m → m[i]? = some y,
    fun i H => ∃ l m : List V, SqT K H a l ∧ SqT K H b m ∧ (l.length = N ∧ m.length = M) ∧ (N ≤ i ∨ M ≤ i)⟩
def iZipF (K : PySem.W.Frag) (ta : TA) : TI := fun σ H R => ta σ H fun vs H1 => ∃ a b l m, vs = [.ref a, .ref b] ∧ SqT K H1 a l ∧ SqT K H1 b m ∧ R (ItzF K a b l.length m.length) H1
/-- zip of two tuples, whatever stands in them -/
def zipFD (a b : D) : Mo (List D) := match a, b with
  | .tup l, .tup m => DL.ret (List.zipWith (fun x y => .tup [x, y]) l m)
  | _, _ => stop
def zipFI (t u : DE) : DI := fun env => bnd (t env) fun a => bnd (u env) fun b => zipFD a b
section
variable {X : Cx} {c : Cn} {tg e e2 : Expr} {te tf : DE} {p pos : Pos}
end
/-! typed -/
end DL

/-! tuple(range(n)) -/
namespace DL
open PySem PySem.Spec L2
def tupRgD (a : D) : Mo D := match a with
  | .int n => need (1 ≤ n ∧ n ≤ 1000) (ret (.tup ((List.range n.toNat).map fun i : Nat => D.int (0 + (i : Int)))))
  | _ => stop
section
variable {P : Program} {w : World} {base : Heap} {k : Nat} {N : List Str} {sc : Scope} {X : Cx} {c : Cn}
end
end DL

/-! a tuple times a number -/
namespace DL
open PySem PySem.Spec L2 PyProof.Rows
def rOneT (K : PySem.W.Frag) : R2 := fun x y H Q => ∃ l xs, x = .ref l ∧ y = .int 1 ∧ SqT K H l xs ∧ Q (.ref l) H
def timesTD (a b : D) : Mo D := match a, b with
  | .tup xs, .int k => need (1 ≤ k ∧ k ≤ 1000 ∧ 1 ≤ xs.length ∧ xs.length ≤ 1000 ∧ xs.any isTupD = false) (ret (.tup (List.replicate k.toNat xs).flatten))
  | _, _ => stop
section
variable {P : Program} {w : World} {base : Heap} {k : Nat} {N : List Str} {sc : Scope} {X : Cx} {c : Cn} {ma mb : Md}
end
end DL

/-! a word in a text of signs; an option or a tuple -/
namespace DL
open PySem PySem.Spec L2
/-- x in z, where x is one sign or begins with a sign that is not in z -/
def inWD (a b : D) : Mo D := match a, b with
  | .str x, .str z => need (1 ≤ x.length ∧ (x.length = 1 ∨ x.cps.getD 0 0 ∉ z.cps.toList)) (ret (.bl (decide (x.cps.getD 0 0 ∈ z.cps.toList))))
  | _, _ => stop
def notInWD (a b : D) : Mo D := match a, b with
  | .str x, .str z => need (1 ≤ x.length ∧ (x.length = 1 ∨ x.cps.getD 0 0 ∉ z.cps.toList)) (ret (.bl (!decide (x.cps.getD 0 0 ∈ z.cps.toList))))
  | _, _ => stop
def rInW (neg : Bool) : R2 := fun x y H Q => ∃ i j, x = .str i ∧ y = .str j ∧ (1 ≤ i.length ∧ (i.length = 1 ∨ i.cps.getD 0 0 ∉ j.cps.toList)) ∧ Q (.bl (if neg = true then !decide (i.cps.getD 0 0 ∈ j.cps.toList) else decide (i.cps.getD 0 0 ∈ j.cps.toList))) H
def orND (ta tb : DE) : DE := fun env => bnd (ta env) fun d => match d with
  | .non => tb env
  | .tup [] => tb env
  | .tup (x :: l) => ret (.tup (x :: l))
  | _ => stop
section
variable {P : Program} {w : World} {base : Heap} {k : Nat} {N : List Str} {sc : Scope} {X : Cx} {c : Cn} {ma mb : Md}
end
end DL
namespace DL
open PySem PySem.Spec L2
end DL

/-! part forty-seven: a, b = e1, e2 with own lists or dicts, by a tuple (one of the names is a cell) -/
namespace DL
open PySem PySem.Spec L2
section
variable {c : Cn} {own : Nat → Option Addr} {env : Env'} {n n' : Gn} {σ : St} {H H' : Hp} {o : Bool} {v : V} {d : D} {p : Addr}
theorem Pn.on (vi : VI c.K c.dk n H) (e : Ext c.dk n n' H H') (q : Pn c n own H o v d) : Pn c n' own H' o v d :=
  ⟨fun z => Rp.ext vi (fun _ z => AV.deck z) e (fun _ z => AV.up e z) (q.f z), fun z => by
    obtain ⟨p, h1, h2, h3⟩ := q.t z
    exact ⟨p, h1, IsDk.no e h3.ne h2, h3.ext vi (fun _ z => AV.deck z) e (fun _ z => AV.up e z) h2⟩⟩
theorem VI.upd (vi : VI c.K c.dk n H) (hp : H p = none) (ob : HO) : VI c.K c.dk n (L2.upd H p ob) := vi.new hp
end
def par4S (i : Nat) (oi : Bool) (a : DE) (j : Nat) (oj : Bool) (b : DE) (l : Nat) (ol : Bool) (g : DE) (m : Nat) (om : Bool) (h : DE) : DS := fun env k X n =>
  a env n (fun d n1 => b env n1 (fun e n2 => g env n2 (fun f n3 => h env n3 (fun f2 n4 => (i < env.length ∧ j < env.length ∧ l < env.length ∧ m < env.length) ∧ k.nx ((((env.set i (evO oi d)).set j (evO oj e)).set l (evO ol f)).set m (evO om f2)) n4) (X env)) (X env)) (X env)) (X env)
section
variable {P : Program} {w : World} {base : Heap} {k : Nat} {N : List Str} {sc : Scope} {X : Cx} {c : Cn} {pos pt pt2 px py pz pu : Pos} {a b g h : Expr} {ta tb tg th : DE} {i j l m : Nat} {oi oj ol om : Bool} {x y z u : Str}
end
end DL

/-! part forty-eight: text.index(x) of a written text -/
namespace DL
open PySem PySem.Spec L2
def indexD (z : Str) (a : D) : Mo D := match a with
  | .str x => match Builtin.Str.occurrences z x 0 z.length 1 with
    | i :: _ => ret (.int (i : Nat))
    | [] => stop
  | _ => stop
section
variable {P : Program} {w : World} {base : Heap} {k : Nat} {N : List Str} {sc : Scope} {X : Cx} {c : Cn}
end
end DL

/-! part forty-nine: sorted(a tuple); is, is not of truth values -/
namespace DL
open PySem PySem.Spec L2 PySem.W PyProof.Rows
section
variable {prog : Program} {w : World} {A : Around} {E : Value → Shared → Prop} {s : Shared} {β : Type} {vs : List Value} {bs : List β} {enc : β → PyData} {R : Value → β → Prop}
end
def rSortT (K : PySem.W.Frag) : List V → Hp → VK → Prop := fun vs H Q => ∃ (a : Addr) (ks : List (V × D)), vs = [.ref a] ∧ SqT K H a (ks.map (·.1)) ∧ (∀ p ∈ ks, Dp K H p.1 (py p.2)) ∧ srtOk (ks.map (·.2)) = true ∧
  ∀ p, H p = none → Q (.ref p) (upd H p (.lst ((ks.mergeSort fun x y => leDT x.2 y.2).map (·.1))))
def sortTD (a : D) : Mo D := match a with
  | .tup l => need (srtOk l = true) (ret (.lst (l.mergeSort leDT)))
  | _ => stop
section
variable {X : Cx}
variable {P : Program} {w : World} {base : Heap} {k : Nat} {N : List Str} {sc : Scope} {c : Cn} {pos : Pos}
end
/-! is, is not of truth values -/
def isBD (a b : D) : Mo D := match a, b with
  | .bl x, .bl y => ret (.bl (decide (x = y)))
  | _, _ => stop
def notBD (a b : D) : Mo D := match a, b with
  | .bl x, .bl y => ret (.bl (!decide (x = y)))
  | _, _ => stop
section
variable {c : Cn} {ma mb : Md}
end
end DL
namespace DL
open PySem PySem.Spec L2
section
variable {P : Program} {w : World} {base : Heap} {k : Nat} {N : List Str} {sc : Scope} {X : Cx} {c : Cn}
end
end DL

/-! part fifty: four stored at once by a tuple -/
namespace DL
open PySem PySem.Spec L2
section
variable {P : Program} {w : World} {base : Heap} {k : Nat} {N : List Str} {sc : Scope} {X : Cx} {c : Cn} {pos pt pt2 px py pz pu : Pos} {a b g h : Expr} {ta tb tg th : DE} {i j l m : Nat} {oi oj ol om : Bool} {x y z u : Str}
end
end DL

/-! part fifty-one: except C as e; isinstance and fields of what was caught -/
namespace DL
open PySem PySem.Spec L2
/-- the names of a context -/
structure Gw (N : List Str) (sc : Scope) (X : Cx) (c : Cn) : Prop where
  nd : N.Nodup
  N : X.N = N
  sc : X.env.scope = sc
  K : X.K = c.K
  mg : X.mg = c.mg
/-- a class of errors that is caught as a name -/
structure ExA (K : PySem.W.Frag) (mg : Str → Option Value) (y x : Str) : Prop where
  all : ∃ C S, mg y = some (.ref C) ∧ mg x = some (.ref S) ∧ PySem.W.exmOne K (.ref C) (.ref S) = some true ∧ ExcC K C
/-- isinstance(e, x) of an error of class y: x of the program's own, or built in -/
def ExI (K : PySem.W.Frag) (mg : Str → Option Value) (y x : Str) (b : Bool) : Prop := ∀ C, mg y = some (.ref C) → ∃ S, mg x = some (.ref S) ∧ PySem.W.kitOne K (.ref C) (.ref S) = some b
def ExT (K : PySem.W.Frag) (mg : Str → Option Value) (y : Str) (t : String) (b : Bool) : Prop := ∀ C, mg y = some (.ref C) → PySem.W.kitOne K (.ref C) (.type t) = some b
/-- what is caught: its class, its fields; these stand in the heap of the context's beginning -/
structure Cg (c : Cn) (d : Option Addr) (xd : XD) : Prop where
  dict : (d = none ∧ xd.fs = []) ∨ ∃ dd fs, d = some dd ∧ c.H0 dd = some (.xd fs) ∧ fs.map (·.1) = xd.fs.map (·.1) ∧ c.gh = (fs.map (·.2)).zip (xd.fs.map (·.2))
theorem Cg.at' {c : Cn} {d : Option Addr} {xd : XD} (g : Cg c d xd) {own : Nat → Option Addr} {env : Env'} {n : Gn} {σ : St} {H : Hp} (R : ER c own env n σ H) : d = none ∨ ∃ dd fs, d = some dd ∧ H dd = some (.xd fs) := by
  rcases g.dict with ⟨h, _⟩ | ⟨dd, fs, h1, h2, _⟩
  · exact .inl h
  · refine .inr ⟨dd, fs, h1, ?_⟩
    exact R.ext.fix R.vi0 h2 trivial
def rIsF (K : PySem.W.Frag) (D a : Addr) (d : Option Addr) : List V → Hp → VK → Prop := fun xs H Q => ∃ (c : V) (cv : Value) (b : Bool), xs = [.ref a, c] ∧ (∀ u, RelV c u → u = cv) ∧ PySem.W.kitOne K (.ref D) cv = some b ∧ (d = none ∨ ∃ dd fs, d = some dd ∧ H dd = some (.xd fs)) ∧ Q (.bl b) H
section
variable {P : Program} {w : World} {base : Heap} {k : Nat} {N : List Str} {sc : Scope} {X : Cx} {c : Cn}
theorem Gw.gl {x : Str} (G : Gw N sc X c) (h : sc.names.lookup x = some .globalImplicit) : Gl X x := by
  unfold Gl Env.kindOf
  rw [G.sc]
  exact h
/-- isinstance of the thing at a, as it is known -/
def isxD (a : Addr) (b : Bool) (d : D) : Mo D := match d with
  | .obj a' => need (a' = a) (ret (.bl b))
  | _ => stop
theorem pe_globn {x : Str} {S : Addr} {pos : Pos} (hg : Gl X x) (hm : X.mg x = some (.ref S)) (hd : (x == ("__debug__" : Str)) = false) : PE X (.Name x pos) (tC (.ref S)) :=
  ⟨fun _ _ _ H _ I h => ld_glob I hg hm ⟨.ref S, H, I, rfl, h⟩ hd⟩
variable {X0 : Cx} {a C : Addr} {oe : Obj} {pn : List (Addr × Obj)} {d : Option Addr} {xd : XD} {i : Nat} {n x : Str} {b : Bool} {p p1 p2 pos : Pos}
/-- what is caught is bound to a slot; the suite leaves; other errors are not known to come -/
def clnE (env : Env') : Env' := env.map fun e => match e with
  | .own _ => .no
  | e => e
def tryAsS (i : Nat) (cs : List Str) (b : DS) (su : Addr → XD → DS) : DS := fun env k X n => b env k (fun env' xd n' => xd.cls ∈ cs ∧ lfL (xd.fs.map (·.2)) = true ∧ i < env'.length ∧ ∀ a, su a xd ((clnE env').set i (.val (.obj a))) { nx := fun _ _ => False, rt := k.rt } X n') n
/-- the context of the suite -/
def Cn.ct' (c : Cn) (n : Gn) (H : Hp) (gh : List (V × D)) : Cn := { c with H0 := H, n0 := n, gh := gh, hid := [] }
end
end DL
namespace DL
open PySem PySem.Spec L2
/-- a field of what was caught -/
def fldD (a : Addr) (xd : XD) (f : Str) (d : D) : Mo D := match d with
  | .obj a' => need (a' = a) (match xd.fs.lookup f with
    | some v => ret v
    | none => stop)
  | _ => stop
def ExN (K : PySem.W.Frag) (mg : Str → Option Value) (y f : Str) : Prop := ∀ C, mg y = some (.ref C) → PySem.W.findIn K (.ref C) f = some none
section
variable {P : Program} {w : World} {base : Heap} {k : Nat} {N : List Str} {sc : Scope} {X0 : Cx} {c : Cn} {a C : Addr} {oe : Obj} {pn : List (Addr × Obj)} {d : Option Addr} {xd : XD} {i : Nat} {n f : Str} {p1 pos : Pos}
end
end DL

/-! part fifty-two: three stored at once by a tuple, own lists or dicts among them -/
namespace DL
open PySem PySem.Spec L2
section
variable {P : Program} {w : World} {base : Heap} {k : Nat} {N : List Str} {sc : Scope} {X : Cx} {c : Cn} {pos pt pt2 px py pz : Pos} {a b g : Expr} {ta tb tg : DE} {i j l : Nat} {oi oj ol : Bool} {x y z : Str}
end
end DL

/-! part fifty-three: any tuple times a number, the new object known -/
namespace DL
open PySem PySem.Spec L2 PyProof.Rows PySem.W
def rRepF (K : PySem.W.Frag) : R2 := fun x y H Q => ∃ l k xs, x = .ref l ∧ y = .int k ∧ SqT K H l xs ∧ 1 ≤ k ∧ k ≤ 1000 ∧ xs.length ≤ 1000 ∧ (xs = [] ∨ k = 1 → Q (.ref l) H) ∧ (xs ≠ [] → 2 ≤ k → NewT H (List.replicate k.toNat xs).flatten Q)
section
variable {X : Cx}
end
def timesTF (a b : D) : Mo D := match a, b with
  | .tup xs, .int k => need (1 ≤ k ∧ k ≤ 1000 ∧ xs.length ≤ 1000) (ret (.tup (List.replicate k.toNat xs).flatten))
  | _, _ => stop
section
variable {P : Program} {w : World} {base : Heap} {k : Nat} {N : List Str} {sc : Scope} {X : Cx} {c : Cn} {ma mb : Md}
end
end DL

/-! part fifty-four: text.split of a written sign -/
namespace DL
open PySem PySem.Spec L2 TL
/-- split at a written sign -/
def splitD (y : Str) (a : D) : Mo D := match a with
  | .str x => need (x.length + 2 ≤ sizeLine) (ret (.lst ((Txt.split x y).map D.str)))
  | _ => stop
def sepOk (y : Str) : Bool := !(y.length == 0) && !(y.cps.toList.isEmpty) && y.cps.all (· < 256)
section
variable {P : Program} {w : World} {base : Heap} {k : Nat} {N : List Str} {sc : Scope} {X : Cx} {c : Cn}
end
end DL

/-! part fifty-five: raise C(a, b), C's own __init__ keeping both as fields; raise C(a) -/
namespace DL
open PySem PySem.Spec L2
/-- what such an __init__ does -/
def spI2 (C : Addr) (f1 f2 : Str) : Sp := fun vs H Q _ => ∃ (a : Addr) (v1 v2 : V), vs = [.ref a, v1, v2] ∧ H a = some (exo a C none) ∧
  ∀ dx H', H dx = none → dx ≠ a → H' a = some (exo a C (some dx)) → H' dx = some (exd dx [(f2, v2), (f1, v1)]) → (∀ b o, b ≠ a → H b = some o → H' b = some o) → Q .non H'
def spI1 (C : Addr) (f1 : Str) : Sp := fun vs H Q _ => ∃ (a : Addr) (v1 : V), vs = [.ref a, v1] ∧ H a = some (exo a C none) ∧
  ∀ dx H', H dx = none → dx ≠ a → H' a = some (exo a C (some dx)) → H' dx = some (exd dx [(f1, v1)]) → (∀ b o, b ≠ a → H b = some o → H' b = some o) → Q .non H'
section
variable {K : PySem.W.Frag} {C : Addr} {f1 f2 : Str} {vs : List V} {H : Hp} {Q : VK} {E : XK}
theorem init2_end {s a b : Str} {D : Ends} (T : OexC K C) (n1 : PySem.W.findIn K (.ref C) f1 = some none) (n2 : PySem.W.findIn K (.ref C) f2 = some none) (h : spI2 C f1 f2 vs H Q E) (hD : D.nx = fun _ H' => Q .non H') :
    tSeq (tOst K f1 (tVar 0) (tVar 1)) (tOst K f2 (tVar 0) (tVar 2)) D (L2.start [s, a, b] vs) H := by
  obtain ⟨x, v1, v2, rfl, h1, fin⟩ := h
  refine ⟨v1, rfl, .ref x, rfl, x, C, rfl, T, n1, .inl ⟨h1, fun dx hd hne => ?_⟩⟩
  refine ⟨v2, rfl, .ref x, rfl, x, C, rfl, T, n2, .inr ⟨dx, [(f1, v1)], upd_same, by rw [upd_ne hne, upd_same], (show 1 ≤ 900 by decide), ?_⟩⟩
  rw [hD]
  refine fin dx _ hd hne (by rw [upd_ne hne.symm, upd_same]) upd_same fun b o hb ho => ?_
  rw [upd_ne (fun z => by rw [z, hd] at ho; cases ho), upd_ne hb, upd_ne (fun z => by rw [z, hd] at ho; cases ho)]
  exact ho
theorem init1_end {s a : Str} {D : Ends} (T : OexC K C) (n1 : PySem.W.findIn K (.ref C) f1 = some none) (h : spI1 C f1 vs H Q E) (hD : D.nx = fun _ H' => Q .non H') :
    tOst K f1 (tVar 0) (tVar 1) D (L2.start [s, a] vs) H := by
  obtain ⟨x, v1, rfl, h1, fin⟩ := h
  refine ⟨v1, rfl, .ref x, rfl, x, C, rfl, T, n1, .inl ⟨h1, fun dx hd hne => ?_⟩⟩
  rw [hD]
  refine fin dx _ hd hne upd_same (by rw [upd_ne hne, upd_same]) fun b o hb ho => ?_
  rw [upd_ne hb, upd_ne (fun z => by rw [z, hd] at ho; cases ho)]
  exact ho
end
/-- an own class of errors whose __init__ keeps a promise -/
def ExF (P : Program) (w : World) (K : PySem.W.Frag) (mg : Str → Option Value) (base : Heap) (k : Nat) (x : Str) (sp : Addr → Sp) : Prop :=
  ∃ (C fI : Addr) (fd : FuncData) (ps : List Str) (j : Nat), j + 1 ≤ k ∧ mg x = some (.ref C) ∧ OexC K C ∧ PySem.W.findIn K (.ref C) "__init__" = some (some (.ref fI)) ∧ PySem.W.typeIn K (.ref fI) = some (.type "function") ∧ FnOk P w K mg base CX0 j fI fd ps (sp C) ∧ Binds K fd ps []
abbrev ExF2 (P : Program) (w : World) (K : PySem.W.Frag) (mg : Str → Option Value) (base : Heap) (k : Nat) (x f1 f2 : Str) : Prop := ExF P w K mg base k x fun C => spI2 C f1 f2
abbrev ExF1 (P : Program) (w : World) (K : PySem.W.Frag) (mg : Str → Option Value) (base : Heap) (k : Nat) (x f1 : Str) : Prop := ExF P w K mg base k x fun C => spI1 C f1
theorem ExF.at_ {P : Program} {w : World} {K K' : PySem.W.Frag} {mg mg' : Str → Option Value} {base : Heap} {k : Nat} {x : Str} {sp : Addr → Sp} (h : ExF P w K mg base k x sp) (hK : K' = K) (hm : mg' = mg) : ExF P w K' mg' base k x sp := by
  subst hK hm; exact h
theorem ExF.mono {P : Program} {w : World} {K : PySem.W.Frag} {mg : Str → Option Value} {base : Heap} {k k' : Nat} {x : Str} {sp : Addr → Sp} (h : ExF P w K mg base k x sp) (hk : k ≤ k') : ExF P w K mg base k' x sp := by
  obtain ⟨C, fI, fd, ps, j, hj, h⟩ := h
  exact ⟨C, fI, fd, ps, j, by omega, h⟩
def raise2S (x f1 f2 : Str) (u : DA) : DS := fun env _ X n => u env n (fun ds n' => match ds with | [d1, d2] => X env ⟨x, [(f2, d2), (f1, d1)]⟩ n' | _ => False) (X env)
def raise1S (x f1 : Str) (u : DA) : DS := fun env _ X n => u env n (fun ds n' => match ds with | [d1] => X env ⟨x, [(f1, d1)]⟩ n' | _ => False) (X env)
section
variable {P : Program} {w : World} {base : Heap} {k : Nat} {N : List Str} {sc : Scope} {X : Cx} {c : Cn}
end
end DL

/-! part fifty-six: a law without a deck -/
namespace DL
open PySem PySem.Spec L2
end DL

/-! part fifty-seven: an own list's item stored; a, b = xs.pop(), e -/
namespace DL
open PySem PySem.Spec L2
section
variable {c : Cn} {own : Nat → Option Addr} {env : Env'} {n : Gn} {σ : St} {H : Hp} {i : Nat}
end
/-- xs[e] = v, xs an own list -/
def putLS (i : Nat) (ti te : DE) : DS := fun env k X n => te env n (fun d n1 => match ownL env i with
  | some l => ti env n1 (fun z n2 => match z with
    | .int z => match ixN l.length z with
      | some j => k.nx (env.set i (.own (.lst (l.set j d)))) n2
      | none => False
    | _ => False) (X env)
  | none => False) (X env)
def par2PopS (i l j : Nat) (oj : Bool) (b : DE) : DS := fun env k X n => match ownL env l with
  | some ys => match ys[ys.length - 1]? with
    | some y => b (env.set l (.own (.lst ys.dropLast))) n (fun e n2 => (i < env.length ∧ j < env.length) ∧ k.nx (((env.set l (.own (.lst ys.dropLast))).set i (.val y)).set j (evO oj e)) n2) (X (env.set l (.own (.lst ys.dropLast))))
    | none => False
  | none => False
def par3PopS (i l j : Nat) (oj : Bool) (b : DE) (m : Nat) (om : Bool) (g : DE) : DS := fun env k X n => match ownL env l with
  | some ys => match ys[ys.length - 1]? with
    | some y => b (env.set l (.own (.lst ys.dropLast))) n (fun e n2 => g (env.set l (.own (.lst ys.dropLast))) n2 (fun f n3 => (i < env.length ∧ j < env.length ∧ m < env.length) ∧ k.nx ((((env.set l (.own (.lst ys.dropLast))).set i (.val y)).set j (evO oj e)).set m (evO om f)) n3) (X (env.set l (.own (.lst ys.dropLast))))) (X (env.set l (.own (.lst ys.dropLast))))
    | none => False
  | none => False
section
variable {P : Program} {w : World} {base : Heap} {k : Nat} {N : List Str} {sc : Scope} {X : Cx} {c : Cn} {pos pt pt2 px py pz : Pos} {b g kk v : Expr} {tb tg tk tv : DE} {i j l m : Nat} {oi oj om : Bool} {x y z u : Str}
theorem RpL.init {K : PySem.W.Frag} {dk : DkT} {H : Hp} {A : Addr → Prop} {vs : List V} {ds : List D} (r : RpL K dk H A vs ds) : RpL K dk H A vs.dropLast ds.dropLast := by
  rw [List.dropLast_eq_take, List.dropLast_eq_take, r.length]
  exact r.take _
end
end DL

/-! part fifty-eight: a comprehension over an own list that grows on behind it; what it makes has no lists in it -/
namespace DL
open PySem PySem.Spec L2
def lcO (tg : Tg) (i : Nat) (tt te : DE) (vs : List Nat) : DE := fun env => match env[i]? with
  | some (.own (.lst ds)) => need (noOwn vs (env.set i (.val (.lst ds))) = true) (bnd (noX (lcL tg tt te (killE vs (env.set i (.val (.lst ds)))) ds [])) fun l => need (lfL l = true) (ret (.lst l)))
  | _ => stop
def lfO : D → Bool
  | .lst l => lfL l
  | _ => false
section
variable {P : Program} {w : World} {base : Heap} {k : Nat} {N : List Str} {sc : Scope} {X : Cx} {c : Cn} {elt tge iter : Expr} {ifs : List Expr} {scope : Scope} {pos : Pos} {tg : Tg} {j : Nat} {tt te : DE}
end
end DL

/-! part fifty-nine: a >= b of tuples -/
namespace DL
open PySem PySem.Spec L2 PySem.SeqAt
def geP (a b : PyData) : Bool := leP b a
def rGeD (K : PySem.W.Frag) : R2 := fun x y H Q => ∃ d e, Dp K H x d ∧ Dp K H y e ∧ d.canLay0 = true ∧ e.canLay0 = true ∧ d.depth ≤ 60 ∧ e.depth ≤ 60 ∧ cpr d e = true ∧ Q (.bl (geP d e)) H
/-- of any two values in order -/
def geTD (a b : D) : Mo D := need (ordOk a b = true) (ret (.bl (leB b a)))
end DL

/-! part sixty: a module's tuple of texts; t.index(text) -/
namespace DL
open PySem PySem.Spec L2
/-- a name of the module that holds a tuple of texts -/
def GlT (K : PySem.W.Frag) (mg : Str → Option Value) (x : Str) (ys : List Str) : Prop := ∃ (a : Addr) (o : Obj) (its : Array Value) (n : Nat), mg x = some (.ref a) ∧ K.lookup a = some o ∧ o.cls = .type "tuple" ∧ o.dict = none ∧ o.data = .seq its n ∧ its.size ≤ sizeLine ∧ Vals (ys.map V.str) its.toList ∧ (∀ y ∈ ys, PyData.strOk y = true) ∧ ys ≠ []
theorem GlT.at {K K' : PySem.W.Frag} {mg mg' : Str → Option Value} {x : Str} {ys : List Str} (hK : K' = K) (hm : mg' = mg) (h : GlT K mg x ys) : GlT K' mg' x ys := hm ▸ hK ▸ h
def idxS : List Str → Str → Option Nat
  | [], _ => none
  | y :: ys, z => if y = z then some 0 else (idxS ys z).map (· + 1)
def tindexD (ys : List Str) (b : D) : Mo D := match b with
  | .str z => match idxS ys z with
    | some j => ret (.int (j : Nat))
    | none => stop
  | _ => stop
section
variable {P : Program} {w : World} {base : Heap} {k : Nat} {N : List Str} {sc : Scope} {X : Cx} {c : Cn} {pos apos : Pos} {o e : Expr} {to te : DE}
end
end DL

/-! part sixty-one: the store: looked up, changed, grown -/
namespace DL
open PySem PySem.Spec L2
def sput : List (Addr × OS) → Addr → OS → List (Addr × OS)
  | [], _, _ => []
  | p :: l, a, o => if p.1 = a then (a, o) :: l else p :: sput l a o
theorem slook_put_ne : ∀ {l : List (Addr × OS)} {a b : Addr} {o : OS}, b ≠ a → slook (sput l a o) b = slook l b
  | [], _, _, _, _ => rfl
  | p :: l, a, b, o, h => by
    unfold sput
    by_cases e : p.1 = a
    · rw [if_pos e]
      unfold slook
      rw [if_neg (show ¬ (a, o).1 = b from fun z => h z.symm), if_neg (by rw [e]; exact fun z => h z.symm)]
    · rw [if_neg e]
      unfold slook
      rw [slook_put_ne h]
theorem slook_put : ∀ {l : List (Addr × OS)} {a : Addr} {o : OS}, slook l a ≠ none → slook (sput l a o) a = some o
  | [], _, _, h => absurd rfl h
  | p :: l, a, o, h => by
    unfold sput
    by_cases e : p.1 = a
    · rw [if_pos e]
      unfold slook
      rw [if_pos rfl]
    · rw [if_neg e]
      unfold slook at h ⊢
      rw [if_neg e] at h ⊢
      exact slook_put h
def lfS : OS → Bool
  | .lst l => lfL l
  | .ins _ fs => lfL (fs.map (·.2))
  | .err _ fs => lfL (fs.map (·.2))
def Gn.put (n : Gn) (a : Addr) (o : OS) : Gn := ⟨n.k, sput n.sto a o⟩
def Gn.add (n : Gn) (a : Addr) (o : OS) : Gn := ⟨n.k, (a, o) :: n.sto⟩
theorem Gn.add_look {n : Gn} {a : Addr} {o : OS} : slook (n.add a o).sto a = some o := if_pos rfl
theorem Gn.add_ne {n : Gn} {a b : Addr} {o : OS} (h : b ≠ a) : slook (n.add a o).sto b = slook n.sto b := if_neg fun z => h z.symm
theorem Gn.put_look {n : Gn} {a : Addr} {o : OS} (h : Mu n a) : slook (n.put a o).sto a = some o := slook_put h
theorem Gn.put_ne {n : Gn} {a b : Addr} {o : OS} (h : b ≠ a) : slook (n.put a o).sto b = slook n.sto b := slook_put_ne h
theorem Gn.mu_put {n : Gn} {a b : Addr} {o : OS} (h : Mu n a) : Mu (n.put a o) b ↔ Mu n b := by
  by_cases e : b = a
  · subst e
    exact ⟨fun _ => h, fun _ z => by rw [Gn.put_look h] at z; cases z⟩
  · unfold Mu
    rw [Gn.put_ne e]
theorem Gn.mu_add {n : Gn} {a b : Addr} {o : OS} : Mu (n.add a o) b ↔ b = a ∨ Mu n b := by
  by_cases e : b = a
  · subst e
    exact ⟨fun _ => .inl rfl, fun _ z => by rw [Gn.add_look] at z; cases z⟩
  · unfold Mu
    rw [Gn.add_ne e]
    exact ⟨.inr, fun z => z.resolve_left e⟩
section
variable {α : Type}
def getM (a : Addr) (f : OS → Mo α) : Mo α := fun n Q X => ∃ o, slook n.sto a = some o ∧ f o n Q X
def setM (a : Addr) (o : OS) (m : Mo α) : Mo α := fun n Q X => Mu n a ∧ lfS o = true ∧ m (n.put a o) Q X
def newM (o : OS) (f : Addr → Mo α) : Mo α := fun n Q X => lfS o = true ∧ ∀ a, ¬ Mu n a → f a (n.add a o) Q X
end
end DL

/-! part sixty-two: calls, methods and makings whose errors are wished for at the caller's slots -/
namespace DL
open PySem PySem.Spec L2 PyProof.Rows
def tMethSD (C : Addr) (m : Str) (sp : Sp) (dvs : List V) (E : L2.St → XK) (ta : TE) (t : TA) : TE := fun σ H Q => ta σ H fun x H1 => ∃ a dx fs, x = .ref a ∧ H1 a = some (.ins C dx fs) ∧ fs.lookup m = none ∧ t σ H1 fun vs H2 => sp (x :: (vs ++ dvs)) H2 Q (E σ)
def tMakeSD (C : Addr) (sp : Sp) (dvs : List V) (E : L2.St → XK) (t : TA) : TE := fun σ H Q => t σ H fun vs H1 => ∀ x dx, H1 x = none → H1 dx = none → dx ≠ x →
  sp (.ref x :: (vs ++ dvs)) (upd (upd H1 dx (.own x)) x (.ins C dx [])) (fun v H2 => v = .non ∧ Q (.ref x) H2) (E σ)
def tMakeKSD (C : Addr) (n m : Nat) (sp : Sp) (gV : List V → List V → List V) (E : L2.St → XK) (t tk : TA) : TE := fun σ H Q => t σ H fun vs H1 => tk σ H1 fun zs H2 => vs.length = n ∧ zs.length = m ∧ ∀ x dx, H2 x = none → H2 dx = none → dx ≠ x →
  sp (gV (.ref x :: vs) zs) (upd (upd H2 dx (.own x)) x (.ins C dx [])) (fun v H3 => v = .non ∧ Q (.ref x) H3) (E σ)
def tCallNSD (n m : Nat) (sp : Sp) (gV : List V → List V → List V) (E : L2.St → XK) (t tk : TA) : TE := fun σ H Q => t σ H fun vs H1 => tk σ H1 fun zs H2 => vs.length = n ∧ zs.length = m ∧ sp (gV vs zs) H2 Q (E σ)
section
variable {X : Cx} {CX : CXT} {k n : Nat} {f C : Addr} {fd : FuncData} {ps ks : List Str} {sp : Sp} {dvs : List V} {ds : List Value} {E : L2.St → XK} {x m : Str} {p pos apos : Pos} {e o : Expr} {es : List Expr} {kws : List Keyword} {ta : TE} {t tk : TA}
  {g : List Value → List Value → List Value} {gV : List V → List V → List V}
end
end DL

/-! part sixty-three: things and lists in the store -/
namespace DL
open PySem PySem.Spec L2
section
variable {K : PySem.W.Frag} {dk : DkT} {n n' : Gn} {H H' : Hp} {A B : Addr → Prop} {a : Addr} {o : OS} {u : HO}
theorem VI.put (vi : VI K dk n H) (m : Mu n a) (hs : StAt K dk (L2.upd H a u) a o) (f : ∀ w, H a = some w → ¬ Fix2 w) : VI K dk (n.put a o) (L2.upd H a u) where
  dck := fun p s e => by
    obtain ⟨⟨ns, i, l, j, h1, h2, h3, h4⟩, m1, m2⟩ := vi.dck p s e
    have np : p ≠ a := fun z => m1 (z ▸ m)
    have ns' : s ≠ a := fun z => m2 (z ▸ m)
    exact ⟨⟨ns, i, l, j, (upd_ne np).trans h1, h2, (upd_ne ns').trans h3, h4⟩, fun z => m1 ((Gn.mu_put m).mp z), fun z => m2 ((Gn.mu_put m).mp z)⟩
  st := fun b o' q => by
    by_cases e : b = a
    · subst e
      rw [Gn.put_look m] at q
      cases q
      exact hs
    · rw [Gn.put_ne e] at q
      have s := vi.st b o' q
      have ht : ∀ z xs, H z = some (.tup xs) → L2.upd H a u z = some (.tup xs) := fun z xs h => (upd_ne fun y => by rw [y] at h; exact f _ h trivial).trans h
      have hf : ∀ z ob w, H z = some (.frz ob w) → L2.upd H a u z = some (.frz ob w) := fun z ob w h => (upd_ne fun y => by rw [y] at h; exact f _ h trivial).trans h
      cases o' with
      | lst l =>
        obtain ⟨l0, xs, h1, h2⟩ := s
        exact ⟨l0, xs, (upd_ne e).trans h1, Rp.lf_mono ht hf l0 h2⟩
      | ins C fs =>
        obtain ⟨l0, C, dx, vs, hc, h1, h2, h3, h4⟩ := s
        exact ⟨l0, C, dx, vs, hc, (upd_ne e).trans h1, (upd_ne fun y => by rw [y] at h2; exact f _ h2 trivial).trans h2, h3, Rp.lf_mono ht hf l0 h4⟩
      | err C fs =>
        obtain ⟨l0, C, hc, ⟨e0, h1⟩ | ⟨dx, vs, h1, h2, h3, h4⟩⟩ := s
        · exact ⟨l0, C, hc, .inl ⟨e0, (upd_ne e).trans h1⟩⟩
        · exact ⟨l0, C, hc, .inr ⟨dx, vs, (upd_ne e).trans h1, (upd_ne fun y => by rw [y] at h2; exact f _ h2 trivial).trans h2, h3, Rp.lf_mono ht hf l0 h4⟩⟩
theorem Ext.put (m : Mu n a) : Ext dk n (n.put a o) H (L2.upd H a u) where
  st := fun b w h => by
    by_cases e : b = a
    · exact .inl (.inr (e ▸ m))
    · exact .inr ((upd_ne e).trans h)
  up := fun b h => (Gn.mu_put m).mpr h
  nw := fun b h => .inl ((Gn.mu_put m).mp h)
  kp := fun b h z => by
    by_cases e : b = a
    · rw [e, upd_same] at z; cases z
    · rw [upd_ne e] at z; exact h z
theorem VI.add (vi : VI K dk n H) (nm : ¬ IsDk dk n a) (hs : StAt K dk H a o) : VI K dk (n.add a o) H where
  dck := fun p s e => by
    obtain ⟨D, m1, m2⟩ := vi.dck p s e
    exact ⟨D, fun z => (Gn.mu_add.mp z).elim (fun z => nm (.inl ⟨p, s, e, .inl z.symm⟩)) m1, fun z => (Gn.mu_add.mp z).elim (fun z => nm (.inl ⟨p, s, e, .inr z.symm⟩)) m2⟩
  st := fun b o' q => by
    by_cases e : b = a
    · subst e
      rw [Gn.add_look] at q
      cases q
      exact hs
    · rw [Gn.add_ne e] at q
      exact vi.st b o' q
theorem Ext.add (e : Ext dk n n' H H') (hp : H a = none) : Ext dk n (n'.add a o) H H' where
  st := e.st
  up := fun b h => Gn.mu_add.mpr (.inr (e.up b h))
  nw := fun b h => (Gn.mu_add.mp h).elim (fun z => .inr (z ▸ hp)) (e.nw b)
  kp := e.kp
theorem lookup_rel : ∀ {vs : List (Str × V)} {fs : List (Str × D)} {f : Str} {d : D}, vs.map (·.1) = fs.map (·.1) → RpL K dk H A (vs.map (·.2)) (fs.map (·.2)) → fs.lookup f = some d → ∃ v, vs.lookup f = some v ∧ Rp K dk H A v d
  | [], [], _, _, _, _, h => by cases h
  | [], _ :: _, _, _, h, _, _ => by cases h
  | _ :: _, [], _, _, h, _, _ => by cases h
  | (k, v) :: vs, (k2, d2) :: fs, f, d, h, r, e => by
    simp only [List.map_cons, List.cons.injEq] at h
    obtain ⟨rfl, h⟩ := h
    cases r with
    | cons r1 r2 =>
      rw [List.lookup_cons] at e ⊢
      split at e
      · cases e; exact ⟨v, rfl, r1⟩
      · exact lookup_rel h r2 e
/-- a field stored -/
def putD (f : Str) (v : D) : List (Str × D) → List (Str × D)
  | [] => [(f, v)]
  | (g, x) :: r => if g = f then (g, v) :: r else (g, x) :: putD f v r
end
/-! ### a fresh list goes into the store -/
def stoT (t : DE) : DE := fun env => bnd (t env) fun d => match d with
  | .lst l => newM (.lst l) fun a => ret (.obj a)
  | _ => stop
section
variable {P : Program} {w : World} {base : Heap} {k : Nat} {N : List Str} {sc : Scope} {X : Cx} {c : Cn} {e o : Expr} {te to tv : DE} {pos pos' apos : Pos} {f : Str} {C : Addr}
theorem e_sto {t : DE} (he : PE X e (tX c .f t)) : PE X e (tX c .s (stoT t)) := PE.imp he fun σ H Q q => by
  obtain ⟨own, env, n, R, Qd, h1, h2⟩ := q
  refine ⟨own, env, n, R, _, h1, fun d n' v H' q e vi r => ?_⟩
  obtain ⟨p, rfl, hp, nd, na, ow⟩ := r
  cases d with
  | lst l =>
    obtain ⟨lf, q⟩ := q
    have q := q p (fun z => nd (.inr z))
    obtain ⟨xs, g1, g2⟩ := ow
    exact h2 (.obj p) _ (.ref p) H' q (e.add hp) (vi.add nd ⟨lf, xs, g1, RpL.any lf g2⟩) .obj
  | _ => exact q.elim
/-! ### fields -/
def getFD (x f : Str) (d : D) : Mo D := match d with
  | .obj a => getM a fun o => match o with
    | .ins x' fs => need (x' = x) (match fs.lookup f with | some v => ret v | none => stop)
    | .lst _ => stop
    | .err _ _ => stop
  | _ => stop
theorem ClsAt.eq {K : PySem.W.Frag} {x : Str} {C C' : Addr} (h : ClsAt K x C) (h' : ClsAt K x C') : C = C' := by
  have e := h.symm.trans h'
  cases e; rfl
/-- a field that is an instance's own -/
def FdOk (K : PySem.W.Frag) (x f : Str) : Prop := ∃ C, ClsAt K x C ∧ Cls K C ∧ NoAttr K C f
/-- a property that hands out a field -/
def PrOk (P : Program) (w : World) (K : PySem.W.Frag) (mg : Str → Option Value) (base : Heap) (k : Nat) (x m f : Str) : Prop :=
  ∃ (C p g : Addr) (fd : FuncData) (ps : List Str) (j : Nat), j + 1 ≤ k ∧ ClsAt K x C ∧ Cls K C ∧ PropOf K C m p g ∧ FnOk P w K mg base CX0 j g fd ps (getSp C f) ∧ Binds K fd ps []
theorem PrOk.mono {P : Program} {w : World} {K : PySem.W.Frag} {mg : Str → Option Value} {base : Heap} {j k : Nat} {x m f : Str} (h : PrOk P w K mg base j x m f) (hk : j ≤ k) : PrOk P w K mg base k x m f := by
  obtain ⟨C, p, g, fd, ps, i, hi, h⟩ := h
  exact ⟨C, p, g, fd, ps, i, by omega, h⟩
/-- o.f = v -/
def setFS (x f : Str) (tv to : DE) : DS := fun env k X n => tv env n (fun d n1 => to env n1 (fun y n2 => match y with
  | .obj a => ∃ fs, slook n2.sto a = some (.ins x fs) ∧ fs.length < 1000 ∧ lf d = true ∧ k.nx env (n2.put a (.ins x (putD f d fs)))
  | _ => False) (X env)) (X env)
end
end DL

/-! part sixty-four: methods called, things made -/
namespace DL
open PySem PySem.Spec L2
def MOk (P : Program) (w : World) (K : PySem.W.Frag) (mg : Str → Option Value) (base : Heap) (k : Nat) (x m : Str) (np : Nat) (md : MD) : Prop :=
  ∃ (C f : Addr) (fd : FuncData) (ps : List Str), ClsAt K x C ∧ Cls K C ∧ Meth K C m f ∧ FnOk P w K mg base (L2.CX P w) k f fd ps (spD K mg np md) ∧ Binds K fd ps []
theorem MOk.mono {P : Program} {w : World} {K : PySem.W.Frag} {mg : Str → Option Value} {base : Heap} {j k : Nat} {x m : Str} {np : Nat} {md : MD} (h : MOk P w K mg base j x m np md) (hk : j ≤ k) : MOk P w K mg base k x m np md := by
  obtain ⟨C, f, fd, ps, h0, hC, h1, h2, h3⟩ := h
  exact ⟨C, f, fd, ps, h0, hC, h1, h2.mono hk, h3⟩
def isInsD {α : Type} (x m : Str) (d : D) (k : Mo α) : Mo α := match d with
  | .obj a => getM a fun o => match o with
    | .ins x' fs => need (x' = x ∧ fs.lookup m = none) k
    | .lst _ => stop
    | .err _ _ => stop
  | _ => stop
def methT (x m : Str) (md : MD) (to : DE) (u : DA) : DE := fun env => bnd (to env) fun d => isInsD x m d (bnd (u env) fun ds => md (d :: ds))
section
variable {P : Program} {w : World} {base : Heap} {k : Nat} {N : List Str} {sc : Scope} {X : Cx} {c : Cn} {e o : Expr} {es : List Expr} {to : DE} {u : DA} {pos apos p : Pos} {x m : Str} {C : Addr} {np : Nat} {md : MD}
/-! ### making -/
def mkM (x : Str) (md : MD) (ds : List D) : Mo D := newM (.ins x []) fun a => bnd (md (.obj a :: ds)) fun d => need (d = .non) (ret (.obj a))
/-- the new thing stands -/
theorem ER.made {own : Nat → Option Addr} {env : Env'} {n : Gn} {σ : L2.St} {H : Hp} {y : Str} {x dx : Addr} (hc : ClsAt c.K y C) (R : ER c own env n σ H) (hx : H x = none) (hd : H dx = none) (ne : dx ≠ x) :
    ¬ Mu n x ∧ Ext c.dk n (n.add x (.ins y [])) H (upd (upd H dx (.own x)) x (.ins C dx [])) ∧ VI c.K c.dk (n.add x (.ins y [])) (upd (upd H dx (.own x)) x (.ins C dx [])) := by
  have hx1 : upd H dx (.own x) x = none := by rw [upd_ne fun z => ne z.symm]; exact hx
  have e1 : Ext c.dk n n H (upd H dx (.own x)) := Ext.new hd
  have v1 := R.vi.new (o := .own x) hd
  have e2 : Ext c.dk n n H (upd (upd H dx (.own x)) x (.ins C dx [])) := e1.trans (Ext.new hx1)
  have v2 := v1.new (o := .ins C dx []) hx1
  have nd : ¬ IsDk c.dk n x := fun z => R.vi.ne z hx
  refine ⟨fun z => nd (.inr z), e2.add hx, v2.add nd ⟨rfl, C, dx, [], hc, upd_same, ?_, rfl, .nil⟩⟩
  rw [upd_ne ne, upd_same]
/-- C(..), its __init__ a def of that many parameters without defaults -/
def MkOk (P : Program) (w : World) (K : PySem.W.Frag) (mg : Str → Option Value) (base : Heap) (k : Nat) (x : Str) (np : Nat) (md : MD) : Prop :=
  ∃ (C f : Addr) (fd : FuncData) (ps : List Str) (j : Nat), j + 1 ≤ k ∧ ClsAt K x C ∧ mg x = some (.ref C) ∧ Mk K C f ∧ FnOk P w K mg base (L2.CX P w) j f fd ps (spD K mg np md) ∧ Binds K fd ps []
theorem MkOk.mono {P : Program} {w : World} {K : PySem.W.Frag} {mg : Str → Option Value} {base : Heap} {j k : Nat} {x : Str} {np : Nat} {md : MD} (h : MkOk P w K mg base j x np md) (hk : j ≤ k) : MkOk P w K mg base k x np md := by
  obtain ⟨C, f, fd, ps, i, hi, h⟩ := h
  exact ⟨C, f, fd, ps, i, by omega, h⟩
end
end DL

/-! part sixty-five: calls and makings by the parameters' names -/
namespace DL
open PySem PySem.Spec L2
def permL {α : Type} (is : List Nat) (l : List α) : List α := is.filterMap fun i => l[i]?
section
variable {K : PySem.W.Frag} {dk : DkT} {H : Hp} {A : Addr → Prop}
theorem RpL.at_ : ∀ {vs : List V} {ds : List D}, RpL K dk H A vs ds → ∀ i : Nat, (vs[i]? = none ∧ ds[i]? = none) ∨ ∃ v d, vs[i]? = some v ∧ ds[i]? = some d ∧ Rp K dk H A v d
  | _, _, .nil, i => .inl ⟨rfl, rfl⟩
  | _, _, .cons a t, 0 => .inr ⟨_, _, rfl, rfl, a⟩
  | _, _, .cons a t, i + 1 => by simpa using RpL.at_ t i
theorem Vals.at_ : ∀ {vs : List V} {us : List Value}, Vals vs us → ∀ i : Nat, (vs[i]? = none ∧ us[i]? = none) ∨ ∃ v u, vs[i]? = some v ∧ us[i]? = some u ∧ RelV v u
  | _, _, .nil, i => .inl ⟨rfl, rfl⟩
  | _, _, .cons a t, 0 => .inr ⟨_, _, rfl, rfl, a⟩
  | _, _, .cons a t, i + 1 => by simpa using Vals.at_ t i
variable {x qual : Str} {params : Arguments} {body : List Stmt} {scope : Scope} {kws : List (Str × V)} {f : Addr} {fd : FuncData} {ps : List Str}
end
/-- how values in the order of a call stand for data in the parameters' order -/
structure KRel (K : PySem.W.Frag) (n m np : Nat) (gV : List V → List V → List V) (gD : List D → List D → List D) : Prop where
  rel : ∀ {dk : DkT} {H : Hp} {A : Addr → Prop} {vs zs : List V} {ds es : List D}, RpL K dk H A vs ds → RpL K dk H A zs es → RpL K dk H A (gV vs zs) (gD ds es)
  len : ∀ {vs zs : List V}, vs.length = n → zs.length = m → (gV vs zs).length = np
def KFOk (P : Program) (w : World) (K : PySem.W.Frag) (mg : Str → Option Value) (base : Heap) (k : Nat) (x : Str) (ks : List Str) (gD : List D → List D) (np : Nat) (m : MD) : Prop :=
  ∃ (f : Addr) (fd : FuncData) (ps : List Str) (g : List Value → List Value → List Value) (gV : List V → List V → List V), mg x = some (.ref f) ∧ FnOk P w K mg base (L2.CX P w) k f fd ps (spD K mg np m) ∧ PySem.W.keepIn K (.ref f) = true ∧ KBn K fd ps 0 ks g gV ∧ KRel K 0 ks.length np gV fun _ => gD
theorem KFOk.mono {P : Program} {w : World} {K : PySem.W.Frag} {mg : Str → Option Value} {base : Heap} {j k : Nat} {x : Str} {ks : List Str} {gD : List D → List D} {np : Nat} {m : MD} (h : KFOk P w K mg base j x ks gD np m) (hk : j ≤ k) : KFOk P w K mg base k x ks gD np m := by
  obtain ⟨f, fd, ps, g, gV, h1, h2, h3⟩ := h
  exact ⟨f, fd, ps, g, gV, h1, h2.mono hk, h3⟩
def callK (m : MD) (gD : List D → List D) (u : DA) : DE := fun env => bnd (u env) fun es => m (gD es)
/-- C(e, .., k = v, ..) with its keywords -/
def MkKOk (P : Program) (w : World) (K : PySem.W.Frag) (mg : Str → Option Value) (base : Heap) (k : Nat) (x : Str) (n : Nat) (ks : List Str) (gD : List D → List D → List D) (np : Nat) (md : MD) : Prop :=
  ∃ (C f : Addr) (fd : FuncData) (ps : List Str) (j : Nat) (g : List Value → List Value → List Value) (gV : List V → List V → List V), j + 1 ≤ k ∧ ClsAt K x C ∧ mg x = some (.ref C) ∧ Mk K C f ∧ FnOk P w K mg base (L2.CX P w) j f fd ps (spD K mg np md) ∧ KBn K fd ps (n + 1) ks g gV ∧ KRel K (n + 1) ks.length np gV gD
theorem MkKOk.mono {P : Program} {w : World} {K : PySem.W.Frag} {mg : Str → Option Value} {base : Heap} {j k : Nat} {x : Str} {n : Nat} {ks : List Str} {gD : List D → List D → List D} {np : Nat} {md : MD} (h : MkKOk P w K mg base j x n ks gD np md) (hk : j ≤ k) : MkKOk P w K mg base k x n ks gD np md := by
  obtain ⟨C, f, fd, ps, i, g, gV, hi, h⟩ := h
  exact ⟨C, f, fd, ps, i, g, gV, by omega, h⟩
def mkKM (x : Str) (md : MD) (gD : List D → List D → List D) (ds es : List D) : Mo D := newM (.ins x []) fun a => bnd (md (gD (.obj a :: ds) es)) fun d => need (d = .non) (ret (.obj a))
/-- C(e, ..) with one default, a keyword-only one -/
def MkDOk (P : Program) (w : World) (K : PySem.W.Frag) (mg : Str → Option Value) (base : Heap) (k : Nat) (x : Str) (n : Nat) (dd : List D) (np : Nat) (md : MD) : Prop :=
  ∃ (C f : Addr) (fd : FuncData) (ps : List Str) (j : Nat) (dvs : List V) (dus : List Value), j + 1 ≤ k ∧ ClsAt K x C ∧ mg x = some (.ref C) ∧ Mk K C f ∧ FnOk P w K mg base (L2.CX P w) j f fd ps (spD K mg np md) ∧ Binds K fd ps dus ∧ Vals dvs dus ∧ (∀ dk H A, RpL K dk H A dvs dd) ∧ n + 1 + dvs.length = np
theorem MkDOk.mono {P : Program} {w : World} {K : PySem.W.Frag} {mg : Str → Option Value} {base : Heap} {j k : Nat} {x : Str} {n : Nat} {dd : List D} {np : Nat} {md : MD} (h : MkDOk P w K mg base j x n dd np md) (hk : j ≤ k) : MkDOk P w K mg base k x n dd np md := by
  obtain ⟨C, f, fd, ps, i, g, gV, hi, h⟩ := h
  exact ⟨C, f, fd, ps, i, g, gV, by omega, h⟩
section
variable {P : Program} {w : World} {base : Heap} {k : Nat} {N : List Str} {sc : Scope} {X : Cx} {c : Cn} {e : Expr} {es : List Expr} {kws : List Keyword} {u tk : DA} {t : DE} {pos p kpos : Pos} {nm : Option Str} {C : Addr} {n np : Nat} {md : MD} {x : Str} {ks : List Str}
def mkDM (x : Str) (md : MD) (dd ds : List D) : Mo D := newM (.ins x []) fun a => bnd (md (.obj a :: (ds ++ dd))) fun d => need (d = .non) (ret (.obj a))
end
end DL

/-! part sixty-six: lists in the store: read, appended to, popped -/
namespace DL
open PySem PySem.Spec L2
def rdS (f : D → Mo D) (d : D) : Mo D := match d with
  | .obj a => getM a fun o => match o with
    | .lst l => f (.lst l)
    | .ins _ _ => stop
    | .err _ _ => stop
  | _ => stop
@[reducible] def ixSD (a b : D) : Mo D := rdS (fun l => ixD l b) a
@[reducible] def eqSD (a b : D) : Mo D := rdS (fun l => eqD l b) a
@[reducible] def neSD (a b : D) : Mo D := rdS (fun l => neD l b) a
@[reducible] def slSD (a : D) (l h : Option Int) : Mo D := rdS (fun x => slD x l h) a
section
variable {c : Cn} {ma mb md : Md}
end
section
variable {P : Program} {w : World} {base : Heap} {k : Nat} {N : List Str} {sc : Scope} {X : Cx} {c : Cn} {a b e o : Expr} {ta tb te to : DE} {ma mb : Md} {pos apos p0 p1 : Pos}
/-- o.append(e) -/
def appOS (to te : DE) : DS := fun env k X n => to env n (fun x n1 => match x with
  | .obj a => (∃ l, slook n1.sto a = some (.lst l)) ∧ te env n1 (fun d n2 => ∃ l, slook n2.sto a = some (.lst l) ∧ lf d = true ∧ l.length < sizeLine ∧ k.nx env (n2.put a (.lst (l ++ [d])))) (X env)
  | _ => False) (X env)
/-- o.pop() -/
def popOD (d : D) : Mo D := match d with
  | .obj a => getM a fun o => match o with
    | .lst l => match l[l.length - 1]? with
      | some y => setM a (.lst l.dropLast) (ret y)
      | none => stop
    | .ins _ _ => stop
    | .err _ _ => stop
  | _ => stop
end
end DL

/-! part sixty-seven: constants stored in parallel -/
namespace DL
open PySem PySem.Spec L2
end DL

/-! part sixty-eight: errors made as values, asked for their classes, their fields read -/
namespace DL
open PySem PySem.Spec L2 PyProof.Rows
section
variable {X : Cx} {C fI : Addr} {k : Nat} {fd : FuncData} {ps : List Str} {sp : Sp} {x n : Str} {p pos : Pos} {e : Expr} {es : List Expr} {ta : TA} {te : TE}
/-- C(e, ..), C's own __init__ walked -/
theorem pe_errV (T : OexC X.K C) (iC : PySem.W.findIn X.K (.ref C) "__init__" = some (some (.ref fI))) (tI : PySem.W.typeIn X.K (.ref fI) = some (.type "function")) (F : FnOk X.prog X.w X.K X.mg X.base CX0 k fI fd ps sp) (hr : Room (k + 1) X.A) (hb : Binds X.K fd ps []) (hg : Gl X x) (hm : X.mg x = some (.ref C))
    (ha : PA X (e :: es) ta) (hdb : (x == ("__debug__" : Str)) = false) (he : starEach (e :: es) X.env = (false, eval e X.env) :: starEach es X.env) (hpl : (backTo pos (starEach es X.env)).any (·.1) = false) :
    PE X (.Call (.Name x p) (e :: es) [] pos) (fun σ H Q => ta σ H fun vs H1 => vs.length ≤ 1000 ∧ ∀ a, H1 a = none → sp (.ref a :: vs) (upd H1 a (exoE a C none)) (fun v H2 => v = .non ∧ Q (.ref a) H2) E0) := by
  refine ⟨fun pins s σ H Q I h => ?_⟩
  obtain ⟨nm, q, N, bs, bm, sn, sub, ab, col, dd, k0, k1, k2, k3, k5, hC, hbm⟩ := T.cls
  refine wpAny_Call_Name_kw (ld_glob I hg hm ?_ hdb)
  refine PySem.W.callWith_K (h₀ := X.base) I.ok.mod.kin T.kC (thn (ha.run pos pins s σ H _ I h) fun us s1 ⟨vs, H1, I1, r1, hz, q1⟩ => ⟨I1.kIn, ?_⟩) he hpl
  obtain ⟨hp, g, dr, tk, os⟩ := s1
  generalize ea : hp.objs.size + 1 = a at *
  have hsz : hp.objs.size ≤ a := by omega
  have hn : H1 a = none := I1.hok.fresh hsz
  have hq := q1 a hn
  have hget : ((hp.push (PySem.W.kdv_tup us)).push (PySem.HandSPX.excO C hp.objs.size)).get? a = some (PySem.HandSPX.excO C hp.objs.size) := by rw [← ea]; heap_get
  have I2 : Inv X pins σ (upd H1 a (exoE a C none)) ⟨(hp.push (PySem.W.kdv_tup us)).push (PySem.HandSPX.excO C hp.objs.size), g, dr, tk, os⟩ :=
    I1.laid (t' := tk) (a := a) (o := exo a C none) (fun b o w => Heap.get?_push_of_some _ (Heap.get?_push_of_some _ w)) hsz (exo_ok hget)
  have r2 : Vals (V.ref a :: vs) (Value.ref a :: us) := .cons rfl r1
  have hl : (Value.ref a :: us).length = ps.length := by
    have w := r2.length
    rw [F.len _ _ _ _ hq] at w
    exact w.symm
  have hus : us.length ≤ sizeLine := by
    rw [← Paired.length r1, sizeLine_eq]
    omega
  have bnd := hb _ (Value.ref a :: us) I2.kIn (by rw [List.append_nil]; exact hl)
  rw [List.append_nil] at bnd
  show wpAny _ _ (call (.ref C) us) _ _ _
  refine wpAny_call (PySem.HandSPX.call_own PySem.F.excBase_ValueError (fun Y => PySem.HandSPX.refsVE_contains Y bm hbm) (I1.kIn _ _ hC) (PySem.W.looks_findIn I1.kIn iC) (fun self => PySem.W.bind_fn I1.kIn self tI) hus ?_)
  rw [ea]
  refine codeAny_mono (F.run _ X.stack _ _ ⟨Value.ref a :: us, []⟩ (Value.ref a :: us) _ _ E0 (hr.make C us []) (I2.env0.make C us []) bnd r2 hq) fun r s' hq' => ?_
  cases r with
  | error er => exact pass0 pins σ _ _ er s' I2 hq'
  | ok fl =>
    cases fl with
    | ret u =>
      obtain ⟨v, H', I3, rv, ev, q3⟩ := I2.after hq'
      subst ev
      exact ⟨rv, ⟨V.ref a, H', I3, rfl, q3⟩⟩
    | next => exact False.elim hq'
    | brk => exact False.elim hq'
    | cont => exact False.elim hq'
/-- C(), C without an __init__ of its own -/
theorem pe_err0 {bmB : List Value} {B newId initId : String} (F : ExcBaseFacts B newId initId bmB) (q : PySem.W.excIn X.K C bmB newId = true) (gC : X.mg x = some (.ref C)) (kC : PySem.W.keepIn X.K (.ref C) = true) (hg : Gl X x) (hdb : (x == ("__debug__" : Str)) = false) :
    PE X (.Call (.Name x p) [] [] pos) (fun σ H Q => ∀ a, H a = none → Q (.ref a) (upd H a (exoE a C none))) := by
  refine ⟨fun pins s σ H Q I h => ?_⟩
  refine wpAny_Call_Name_kw (ld_glob I hg gC ?_ hdb)
  refine PySem.W.callWith_K0 I.kIn kC ?_
  obtain ⟨bm, N, nm, qn, bs, hdct, sn, sub, ab, col, dd, k0, k1, k2, k3, k5, mN, hC, hN, hni, T⟩ := exc_obj I.kIn q
  refine wpAny_call_exc_subT F T hC hN hni (fun h' a hm => ?_) (by rw [sizeLine_eq]; exact Nat.zero_le _)
  have hn : H a = none := I.hok.gone hm.new
  obtain ⟨t, ht, _, _⟩ := hm.there
  exact ⟨.ref a, upd H a (exoE a C none), I.laidN hm.keeps hm.new hn (exo_ok ht), rfl, h a hn⟩
/-- isinstance(e, c), e an error that was made -/
def rIsO (K : PySem.W.Frag) : List V → Hp → VK → Prop := fun xs H Q => ∃ (a C : Addr) (c : V) (cv : Value) (b : Bool), xs = [.ref a, c] ∧ ExcC K C ∧ (∀ u, RelV c u → u = cv) ∧ PySem.W.kitOne K (.ref C) cv = some b ∧
  (H a = some (exoE a C none) ∨ ∃ dx fs, H a = some (exoE a C (some dx)) ∧ H dx = some (exdE dx fs)) ∧ Q (.bl b) H
theorem call_isO : CallR X (.builtin "isinstance") (rIsO X.K) := by
  intro pins s σ H xs us Q I r h
  obtain ⟨a, D, c, cv, b, rfl, C, hcv, e, hd0, q⟩ := h
  cases r with
  | cons rx rr =>
    cases rr with
    | cons rt rr =>
      cases rr
      cases rx
      have ec := hcv _ rt
      subst ec
      have hcl : (PySem.W.clsIn X.K D).isSome = true := by
        obtain ⟨cd, hc, _⟩ := PySem.W.any_some C.hd
        rw [hc]; rfl
      rcases hd0 with ea | ⟨dd, fs, ea, ed⟩
      · obtain ⟨t1, hget⟩ := exo_at (C := D) (d := none) I.hok ea
        have J : PySem.W.InstAt s.heap a _ D none := ⟨hget, rfl, rfl, trivial⟩
        exact PySem.W.kia_one (PySem.W.kitx_exc hcl C.hg C.hk C.hs C.ha C.hn C.ht C.hm) I.kIn J e (fun z => nomatch z) fun tk => ⟨.bl b, H, I.kept (t' := tk) fun _ _ z => z, rfl, q⟩
      · obtain ⟨t1, hget⟩ := exo_at (C := D) (d := some dd) I.hok ea
        obtain ⟨mA, hns, hr⟩ := exd_at (fs := fs) I.hok ed
        obtain ⟨od, ho, hl⟩ := lookIn_ns hns
        have J : PySem.W.InstAt s.heap a _ D (some od) := ⟨hget, rfl, rfl, ho⟩
        exact PySem.W.kia_one (PySem.W.kitx_exc hcl C.hg C.hk C.hs C.ha C.hn C.ht C.hm) I.kIn J e (fun z => nomatch z) fun tk => ⟨.bl b, H, I.kept (t' := tk) fun _ _ z => z, rfl, q⟩
/-- e.f, e an error that was made -/
theorem pe_xfO (he : PE X e te) (hb : attributeBase e n X.env (eval e X.env) = eval e X.env) : PE X (.Attribute e n pos) (fun σ H Q => te σ H fun y H1 => ∃ (a C dd : Addr) (fs : List (Str × V)) (v : V), y = .ref a ∧ ExcC X.K C ∧ PySem.W.findIn X.K (.ref C) n = some none ∧
    H1 a = some (exoE a C (some dd)) ∧ H1 dd = some (exdE dd fs) ∧ fs.lookup n = some v ∧ Q v H1) := by
  refine ⟨fun pins s σ H Q I h => ?_⟩
  refine attr_of hb (thn (he.run pins s σ H _ I h) fun u s1 hh => ?_)
  obtain ⟨y, H1, I1, ry, a, C, dd, fs, v, ey, T, hno, ea, ed, l, q⟩ := hh
  subst ey
  obtain rfl : u = Value.ref a := ry
  obtain ⟨t1, hget⟩ := exo_at (C := C) (d := some dd) I1.hok ea
  obtain ⟨mA, hns, hr⟩ := exd_at (fs := fs) I1.hok ed
  obtain ⟨od, ho, hl⟩ := lookIn_ns hns
  obtain ⟨w, hu, ru⟩ := RelO.some_of (v := v) (o := mA n) (by rw [← l]; exact hr n)
  have J : PySem.W.InstAt s1.heap a _ C (some od) := ⟨hget, rfl, rfl, ho⟩
  exact HandSPX.exc_get I1.kIn J T.hg T.hk T.hs (PySem.W.findObj_own T.hd hno rfl (by rw [hl, hu])) (handed_of ru) ⟨v, H1, I1.tok _, ru, q⟩
end
end DL

/-! part sixty-nine: errors in the store -/
namespace DL
open PySem PySem.Spec L2
/-- the class at a name is the module's own -/
def ExG (K : PySem.W.Frag) (mg : Str → Option Value) (x : Str) : Prop := ∀ C, mg x = some (.ref C) → ClsAt K x C
/-- what the classes of a list say to isinstance -/
def ExB (K : PySem.W.Frag) (cv : Value) (tb : List (Str × Bool)) : Prop := ∀ x b, tb.lookup x = some b → ∀ C, ClsAt K x C → ExcC K C ∧ PySem.W.kitOne K (.ref C) cv = some b
def ExBo (K : PySem.W.Frag) (mg : Str → Option Value) (y : Str) (tb : List (Str × Bool)) : Prop := ∃ S, mg y = some (.ref S) ∧ ExB K (.ref S) tb
/-- a field of a class's errors -/
def ExFo (K : PySem.W.Frag) (x f : Str) : Prop := ∀ C, ClsAt K x C → ExcC K C ∧ PySem.W.findIn K (.ref C) f = some none
def errM (x : Str) (fs : List (Str × D)) : Mo D := newM (.err x fs) fun a => ret (.obj a)
def err1M (x f1 : Str) (ds : List D) : Mo D := match ds with
  | [d1] => errM x [(f1, d1)]
  | _ => stop
def err2M (x f1 f2 : Str) (ds : List D) : Mo D := match ds with
  | [d1, d2] => errM x [(f2, d2), (f1, d1)]
  | _ => stop
def isOD (tb : List (Str × Bool)) (d : D) : Mo D := match d with
  | .obj a => getM a fun o => match o with
    | .err x _ => match tb.lookup x with
      | some b => ret (.bl b)
      | none => stop
    | _ => stop
  | _ => stop
def fldOD (x f : Str) (d : D) : Mo D := match d with
  | .obj a => getM a fun o => match o with
    | .err x' fs => need (x' = x) (match fs.lookup f with | some v => ret v | none => stop)
    | _ => stop
  | _ => stop
section
variable {P : Program} {w : World} {base : Heap} {k : Nat} {N : List Str} {sc : Scope} {X : Cx} {c : Cn} {e : Expr} {es : List Expr} {u : DA} {te : DE} {x f1 f2 f : Str} {p p1 p2 pos : Pos}
/-- a made error goes into the store -/
theorem errM_go {own : Nat → Option Addr} {env : Env'} {n1 : Gn} {σ : L2.St} {H1 H' : Hp} {a C : Addr} {fs : List (Str × D)} {Qd : D → Gn → Prop} {Xd : XD → Gn → Prop} (R : ER c own env n1 σ H1) (hc : ClsAt c.K x C) (ha : H1 a = none) (hk : ∀ b o, H1 b = some o → H' b = some o)
    (st : StAt c.K c.dk H' a (.err x fs)) (q : errM x fs n1 Qd Xd) : Qd (.obj a) (n1.add a (.err x fs)) ∧ Ext c.dk n1 (n1.add a (.err x fs)) H1 H' ∧ VI c.K c.dk (n1.add a (.err x fs)) H' := by
  have vi : VI c.K c.dk n1 H' := R.vi.on (fun b hb => by
    obtain ⟨l, hl, _⟩ := R.vi.lst hb
    rw [hl]
    exact hk b _ hl) fun b o h _ => hk b o h
  have nd : ¬ IsDk c.dk n1 a := fun z => R.vi.ne z ha
  exact ⟨q.2 a fun z => nd (.inr z), (Ext.same hk).add ha, vi.add nd st⟩
theorem e_err0 (G : Gd P w base k N sc X c) (E : ExK c.K c.mg x) (E2 : ExG c.K c.mg x) (hg : glB sc x = true) : PE X (.Call (.Name x p) [] [] pos) (tX c .s (fun _ => errM x [])) := by
  obtain ⟨C, g, xF, kF, bF, tF, _⟩ := E
  obtain ⟨k1, k2, k3⟩ := glB_of hg
  refine PE.imp (pe_err0 PySem.F.excBase_ValueError (by rw [G.K]; exact xF) (by rw [G.mg]; exact g) (by rw [G.K]; exact kF) (G.gl k1) k2) fun σ H Q q => ?_
  obtain ⟨own, env, n, R, Qd, g1, g2⟩ := q
  intro a ha
  have hk : ∀ b o, H b = some o → upd H a (exoE a C none) b = some o := fun b o h => (upd_ne fun z => by rw [z, ha] at h; cases h).trans h
  obtain ⟨h1, h2, h3⟩ := errM_go R (E2 C g) ha hk ⟨rfl, C, E2 C g, .inl ⟨rfl, upd_same⟩⟩ g1
  exact g2 _ _ _ _ h1 h2 h3 .obj
theorem e_err1 (G : Gd P w base k N sc X c) (E : ExF1 P w c.K c.mg base k x f1) (E2 : ExG c.K c.mg x) (hg : glB sc x = true) (ha : PA X (e :: es) (tA c .s 1 u)) (hs : starEach (e :: es) X.env = (false, eval e X.env) :: starEach es X.env) (hpl : (backTo pos (starEach es X.env)).any (·.1) = false) :
    PE X (.Call (.Name x p) (e :: es) [] pos) (tX c .s (fun env => bnd (u env) (err1M x f1))) := by
  obtain ⟨C, fI, fd, ps, j, hj, g, T, iC, tI, F, B⟩ := E
  obtain ⟨k1, k2, k3⟩ := glB_of hg
  have F' : FnOk X.prog X.w X.K X.mg X.base CX0 j fI fd ps (spI1 C f1) := by rw [G.prog, G.w, G.K, G.mg, G.base]; exact F
  refine PE.imp (pe_errV (by rw [G.K]; exact T) (by rw [G.K]; exact iC) (by rw [G.K]; exact tI) F' (G.room.mono hj) (by rw [G.K]; exact B) (G.gl k1) (by rw [G.mg]; exact g) ha k2 hs hpl) fun σ H Q q => ?_
  obtain ⟨own, env, n, R, Qd, g1, g2⟩ := q
  refine ⟨own, env, n, R, _, g1, fun ds n1 vs H1 q e1 vi1 r1 hk => ⟨by omega, fun a ha => ?_⟩⟩
  have r1 : RpL c.K c.dk H1 (AV c n1 own) vs ds := r1
  match vs, ds, r1, hk, q with
  | [v1], [d1], .cons ra .nil, _, q =>
    refine ⟨a, v1, rfl, upd_same, fun dx H' hdx hne h1 h2 hkeep => ⟨rfl, ?_⟩⟩
    have R1 := R.go e1 vi1
    have hk : ∀ b o, H1 b = some o → H' b = some o := fun b o hb => by
      have hn : b ≠ a := fun z => by rw [z, ha] at hb; cases hb
      exact hkeep b o hn (by rw [upd_ne hn]; exact hb)
    have lf1 : lfL (([(f1, d1)] : List (Str × D)).map (·.2)) = true := q.1
    have r' : RpL c.K c.dk H' (AV c n1 own) [v1] [d1] := .cons (ra.ext R1.vi (fun _ z => AV.deck z) (Ext.same hk) fun _ z => .inl z) .nil
    obtain ⟨j1, j2, j3⟩ := errM_go R1 (E2 C g) ha hk ⟨lf1, C, E2 C g, .inr ⟨dx, [(f1, v1)], h1, h2, rfl, RpL.any lf1 r'⟩⟩ q
    exact g2 _ _ _ _ j1 (e1.trans j2) j3 .obj
theorem e_err2 (G : Gd P w base k N sc X c) (E : ExF2 P w c.K c.mg base k x f1 f2) (E2 : ExG c.K c.mg x) (hg : glB sc x = true) (ha : PA X (e :: es) (tA c .s 2 u)) (hs : starEach (e :: es) X.env = (false, eval e X.env) :: starEach es X.env) (hpl : (backTo pos (starEach es X.env)).any (·.1) = false) :
    PE X (.Call (.Name x p) (e :: es) [] pos) (tX c .s (fun env => bnd (u env) (err2M x f1 f2))) := by
  obtain ⟨C, fI, fd, ps, j, hj, g, T, iC, tI, F, B⟩ := E
  obtain ⟨k1, k2, k3⟩ := glB_of hg
  have F' : FnOk X.prog X.w X.K X.mg X.base CX0 j fI fd ps (spI2 C f1 f2) := by rw [G.prog, G.w, G.K, G.mg, G.base]; exact F
  refine PE.imp (pe_errV (by rw [G.K]; exact T) (by rw [G.K]; exact iC) (by rw [G.K]; exact tI) F' (G.room.mono hj) (by rw [G.K]; exact B) (G.gl k1) (by rw [G.mg]; exact g) ha k2 hs hpl) fun σ H Q q => ?_
  obtain ⟨own, env, n, R, Qd, g1, g2⟩ := q
  refine ⟨own, env, n, R, _, g1, fun ds n1 vs H1 q e1 vi1 r1 hk => ⟨by omega, fun a ha => ?_⟩⟩
  have r1 : RpL c.K c.dk H1 (AV c n1 own) vs ds := r1
  match vs, ds, r1, hk, q with
  | [v1, v2], [d1, d2], .cons ra (.cons rb .nil), _, q =>
    refine ⟨a, v1, v2, rfl, upd_same, fun dx H' hdx hne h1 h2 hkeep => ⟨rfl, ?_⟩⟩
    have R1 := R.go e1 vi1
    have hk : ∀ b o, H1 b = some o → H' b = some o := fun b o hb => by
      have hn : b ≠ a := fun z => by rw [z, ha] at hb; cases hb
      exact hkeep b o hn (by rw [upd_ne hn]; exact hb)
    have lf1 : lfL (([(f2, d2), (f1, d1)] : List (Str × D)).map (·.2)) = true := q.1
    have r' : RpL c.K c.dk H' (AV c n1 own) [v2, v1] [d2, d1] := .cons (rb.ext R1.vi (fun _ z => AV.deck z) (Ext.same hk) fun _ z => .inl z) (.cons (ra.ext R1.vi (fun _ z => AV.deck z) (Ext.same hk) fun _ z => .inl z) .nil)
    obtain ⟨j1, j2, j3⟩ := errM_go R1 (E2 C g) ha hk ⟨lf1, C, E2 C g, .inr ⟨dx, [(f2, v2), (f1, v1)], h1, h2, rfl, RpL.any lf1 r'⟩⟩ q
    exact g2 _ _ _ _ j1 (e1.trans j2) j3 .obj
/-- who says yes, of whom -/
def tbl (yes all : List Str) : List (Str × Bool) := all.map fun x => (x, decide (x ∈ yes))
theorem ExB.nil {K : PySem.W.Frag} {cv : Value} : ExB K cv [] := fun _ _ h => by cases h
theorem ExB.cons {K : PySem.W.Frag} {cv : Value} {y : Str} {b : Bool} {S : Addr} {tb : List (Str × Bool)} (hc : ClsAt K y S) (h1 : ExcC K S) (h2 : PySem.W.kitOne K (.ref S) cv = some b) (t : ExB K cv tb) : ExB K cv ((y, b) :: tb) := fun z b' h C hC => by
  rw [List.lookup_cons] at h
  split at h
  · rename_i e
    have e := eq_of_beq e
    subst e
    cases h
    cases hc.eq hC
    exact ⟨h1, h2⟩
  · exact t z b' h C hC
theorem exFo_of {K : PySem.W.Frag} {y f : Str} {S : Addr} (hc : ClsAt K y S) (h1 : ExcC K S) (h2 : PySem.W.findIn K (.ref S) f = some none) : ExFo K y f := fun C hC => by
  cases hc.eq hC
  exact ⟨h1, h2⟩
def err0M (x : Str) (_ : List D) : Mo D := errM x []
theorem isO_go {cv : Value} {v2 : V} {tb : List (Str × Bool)} (hcv : ∀ u, RelV v2 u → u = cv) (E : ExB c.K cv tb) {K : PySem.W.Frag} (hK : K = c.K) : Op1 c .s .s (fun y H Q => rIsO K [y, v2] H Q) (isOD tb) := by
  intro own env n σ H0 H y a Q R ra g
  have wa := R.weak ra
  obtain ⟨Qd, g1, g2⟩ := g
  unfold isOD at g1
  split at g1
  · rename_i q
    cases wa
    obtain ⟨o, q1, q2⟩ := g1
    split at q2
    · rename_i z fs
      obtain ⟨l0, C, hc, h⟩ := R.vi.st _ _ q1
      cases hb : tb.lookup z with
      | none => rw [hb] at q2; exact q2.elim
      | some b =>
        rw [hb] at q2
        subst hK
        obtain ⟨E1, E2⟩ := E z b hb C hc
        refine ⟨q, C, v2, cv, b, rfl, E1, hcv, E2, ?_, g2 _ n _ H q2 Ext.refl R.vi (Rp.bl b)⟩
        rcases h with ⟨_, h1⟩ | ⟨dx, vs, h1, h2, _⟩
        · exact .inl h1
        · exact .inr ⟨dx, vs, h1, h2⟩
    · exact q2.elim
  · exact g1.elim
theorem e_isO {tb : List (Str × Bool)} (G : Gd P w base k N sc X c) (E : ExBo c.K c.mg x tb) (hm : c.mg "isinstance" = none) (hg : glB sc "isinstance" = true) (he : PE X e (tX c .s te)) (hx : glB sc x = true) (hs : starEach [e, .Name x p2] X.env = (false, eval e X.env) :: starEach [.Name x p2] X.env) (hs2 : starEach [.Name x p2] X.env = (false, eval (.Name x p2) X.env) :: starEach [] X.env) :
    PE X (.Call (.Name "isinstance" p) [e, .Name x p2] [] pos) (tX c .s (un1 te (isOD tb))) := by
  obtain ⟨g1, g2, g3⟩ := glB_of hg
  obtain ⟨k1, k2, k3⟩ := glB_of hx
  obtain ⟨S, mx, E⟩ := E
  refine PE.imp (pe_callB call_isO (G.gl g1) (by rw [G.mg]; exact hm) (by decide +kernel) (pa_cons he (pa_cons (pe_globn (G.gl k1) (by rw [G.mg]; exact mx) k2) pa_nil hs2) hs) g3 g2 (by rw [hs, hs2]) rfl) fun σ H Q q => ?_
  exact op1_tX (isO_go (cv := .ref S) (v2 := .ref S) (fun u h => h) E G.K) q
theorem e_isOT {t : String} {tb : List (Str × Bool)} (G : Gd P w base k N sc X c) (E : ExB c.K (.type t) tb) (hm : c.mg "isinstance" = none) (hg : glB sc "isinstance" = true) (he : PE X e (tX c .s te)) (hx : glB sc x = true) (mx : c.mg x = none) (hv : bootBuiltins x = some (.type t)) (hs : starEach [e, .Name x p2] X.env = (false, eval e X.env) :: starEach [.Name x p2] X.env) (hs2 : starEach [.Name x p2] X.env = (false, eval (.Name x p2) X.env) :: starEach [] X.env) :
    PE X (.Call (.Name "isinstance" p) [e, .Name x p2] [] pos) (tX c .s (un1 te (isOD tb))) := by
  obtain ⟨g1, g2, g3⟩ := glB_of hg
  obtain ⟨k1, k2, k3⟩ := glB_of hx
  refine PE.imp (pe_callB call_isO (G.gl g1) (by rw [G.mg]; exact hm) (by decide +kernel) (pa_cons he (pa_cons (pe_bltn (v := .ty t) (G.gl k1) (by rw [G.mg]; exact mx) hv rfl k3 k2) pa_nil hs2) hs) g3 g2 (by rw [hs, hs2]) rfl) fun σ H Q q => ?_
  exact op1_tX (isO_go (cv := .type t) (v2 := .ty t) (fun u h => h) E G.K) q
theorem e_fldO (G : Gd P w base k N sc X c) (E : ExFo c.K x f) (he : PE X e (tX c .s te)) (hb : attributeBase e f X.env (eval e X.env) = eval e X.env) : PE X (.Attribute e f pos) (tX c .s (un1 te (fldOD x f))) := by
  refine PE.imp (pe_xfO he hb) fun σ H Q q => ?_
  rw [G.K]
  refine op1_tX (ma := .s) (md := .s) (r := fun y H1 Q => ∃ (a C dd : Addr) (fs : List (Str × V)) (v : V), y = .ref a ∧ ExcC c.K C ∧ PySem.W.findIn c.K (.ref C) f = some none ∧ H1 a = some (exoE a C (some dd)) ∧ H1 dd = some (exdE dd fs) ∧ fs.lookup f = some v ∧ Q v H1) ?_ q
  intro own env n σ H0 H y a Q R ra g
  have wa := R.weak ra
  obtain ⟨Qd, g1, g2⟩ := g
  unfold fldOD at g1
  split at g1
  · rename_i z
    cases wa
    obtain ⟨o, q1, q2⟩ := g1
    split at q2
    · rename_i x' fs
      obtain ⟨rfl, q2⟩ := q2
      obtain ⟨l0, C, hc, h⟩ := R.vi.st _ _ q1
      obtain ⟨E1, E2⟩ := E C hc
      cases hf : fs.lookup f with
      | none => rw [hf] at q2; exact q2.elim
      | some d =>
        rw [hf] at q2
        rcases h with ⟨e0, _⟩ | ⟨dx, vs, h1, h2, h3, h4⟩
        · rw [e0] at hf; cases hf
        · obtain ⟨v, k1, k2⟩ := lookup_rel h3 (RpL.any (B := AV c n own) l0 h4) hf
          exact ⟨z, C, dx, vs, v, rfl, E1, E2, h1, h2, k1, g2 d n v H q2 Ext.refl R.vi k2⟩
    · exact q2.elim
  · exact g1.elim
end
end DL

/-! part seventy: defs called by their parameters' names, defs under a second name -/
namespace DL
open PySem PySem.Spec L2
section
variable {P : Program} {w : World} {K : PySem.W.Frag} {mg : Str → Option Value} {base : Heap} {k np : Nat} {x y qual : Str} {st : Stmt} {f : Addr} {fd : FuncData} {ps ks : List Str} {is : List Nat} {m : MD}
theorem KFOk.at_ {K' : PySem.W.Frag} {mg' : Str → Option Value} {gD : List D → List D} (h : KFOk P w K mg base k y ks gD np m) (hK : K' = K) (hm : mg' = mg) : KFOk P w K' mg' base k y ks gD np m := by subst hK hm; exact h
end
end DL

/-! part seventy-one: defs that call repr: they are promised where nothing is being shown -/
namespace DL
open PySem PySem.Spec L2 PyProof.Rows
structure FnG (P : Program) (w : World) (K : PySem.W.Frag) (mg : Str → Option Value) (base : Heap) (k : Nat) (f : Addr) (fd : FuncData) (ps : List Str) (sp : Sp) : Prop where
  len : ∀ vs H Q E, sp vs H Q E → vs.length = ps.length
  run : ∀ (A : Around) (outer : List Env) (s : Shared) (H : Hp) (us : List Value) (vs : List V) (Q : VK) (E : XK), A.guards = some [] → Room k A → Env0 P w K mg base A outer s H → BindsTo s fd ⟨us, []⟩ (ps.zip us) → Vals vs us → sp vs H Q E →
    codeAny (model P w) A (.call (.ref f) ⟨us, []⟩) (CR (L2.CX P w) outer P w H s Q E) s
theorem FnG.mono {P : Program} {w : World} {K : PySem.W.Frag} {mg : Str → Option Value} {base : Heap} {j k : Nat} {f : Addr} {fd : FuncData} {ps : List Str} {sp : Sp} (F : FnG P w K mg base j f fd ps sp) (h : j ≤ k) : FnG P w K mg base k f fd ps sp :=
  ⟨F.len, fun A o s H us vs Q E hg hr => F.run A o s H us vs Q E hg (hr.mono h)⟩
def FOkG (P : Program) (w : World) (K : PySem.W.Frag) (mg : Str → Option Value) (base : Heap) (k : Nat) (e : FE) : Prop :=
  ∃ (f : Addr) (fd : FuncData) (ps : List Str), mg e.x = some (.ref f) ∧ FnG P w K mg base k f fd ps (spD K mg e.np e.m) ∧ PySem.W.keepIn K (.ref f) = true ∧ Binds K fd ps []
theorem FOkG.mono {P : Program} {w : World} {K : PySem.W.Frag} {mg : Str → Option Value} {base : Heap} {j k : Nat} {e : FE} (h : FOkG P w K mg base j e) (hk : j ≤ k) : FOkG P w K mg base k e := by
  obtain ⟨f, fd, ps, h1, h2, h3⟩ := h
  exact ⟨f, fd, ps, h1, h2.mono hk, h3⟩
theorem FOkG.at {P : Program} {w : World} {K K' : PySem.W.Frag} {mg mg' : Str → Option Value} {base : Heap} {k : Nat} {e : FE} (h : FOkG P w K mg base k e) (hK : K' = K) (hm : mg' = mg) : FOkG P w K' mg' base k e := by subst hK hm; exact h
section
variable {P : Program} {w : World} {K : PySem.W.Frag} {mg : Str → Option Value} {base : Heap} {k : Nat}
end
section
variable {P : Program} {w : World} {base : Heap} {k np : Nat} {N : List Str} {sc : Scope} {X : Cx} {c : Cn} {u : DA} {e : Expr} {es : List Expr} {x : Str} {p pos : Pos} {m : MD}
end
end DL

/-! part seventy-two: isinstance of a thing with its own class; makings by the parameters' names; properties -/
namespace DL
open PySem PySem.Spec L2
/-- the class at a name, and isinstance of its things -/
def CiOk (K : PySem.W.Frag) (mg : Str → Option Value) (x : Str) : Prop := ∃ C, ClsAt K x C ∧ mg x = some (.ref C) ∧ Cls K C ∧ PySem.W.kitOne K (.ref C) (.ref C) = some true ∧
  PySem.W.findIn K (.ref C) "__class__" = some (some (.builtin "object.__class__")) ∧ PySem.W.specialIn K (.builtin "object.__class__") "__get__" = some (some (.builtin "getset_descriptor.__get__")) ∧
  PySem.W.takesIn K (.builtin "object.__class__") = some true ∧ PySem.W.mroIn K C (.type "object") = some true
def isID (x : Str) (d : D) : Mo D := match d with
  | .obj a => getM a fun o => match o with
    | .ins x' _ => need (x' = x) (ret (.bl true))
    | _ => stop
  | _ => stop
section
variable {P : Program} {w : World} {base : Heap} {k : Nat} {N : List Str} {sc : Scope} {X : Cx} {c : Cn} {e : Expr} {te : DE} {x : Str} {p p2 pos : Pos}
end
section
variable {K : PySem.W.Frag} {P : Program} {w : World} {mg : Str → Option Value} {base : Heap} {k n np : Nat} {x y qual : Str} {st : Stmt} {f C : Addr} {fd : FuncData} {ps ks : List Str} {is : List Nat} {md : MD}
theorem MkKOk.at_ {K' : PySem.W.Frag} {mg' : Str → Option Value} {gD : List D → List D → List D} (h : MkKOk P w K mg base k x n ks gD np md) (hK : K' = K) (hm : mg' = mg) : MkKOk P w K' mg' base k x n ks gD np md := by subst hK hm; exact h
theorem PrOk.at_ {K' : PySem.W.Frag} {mg' : Str → Option Value} {m f : Str} (h : PrOk P w K mg base k x m f) (hK : K' = K) (hm : mg' = mg) : PrOk P w K' mg' base k x m f := by subst hK hm; exact h
theorem MOk.at_ {K' : PySem.W.Frag} {mg' : Str → Option Value} {m : Str} (h : MOk P w K mg base k x m np md) (hK : K' = K) (hm : mg' = mg) : MOk P w K' mg' base k x m np md := by subst hK hm; exact h
end
end DL

/-! part seventy-three: x != y of two things whose class has its own == -/
namespace DL
open PySem PySem.Spec L2
/-- a class right under object, with its own == and no own != -/
def neIn (K : PySem.W.Frag) (C f : Addr) : Bool := match K.lookup C with
  | some ⟨.type "type", _, .cls cd, sl⟩ => (match cd.mro, sl.toList with
    | [.ref C', .type "object"], [_, _, _, _, some (.builtin _), _] => C' == C && !cd.hasDel && PySem.W.nsOkIn K cd.ns && PySem.W.nsIn K cd.ns "__eq__" == some (some (.ref f)) && PySem.W.nsIn K cd.ns "__ne__" == some none && PySem.W.isFn K (.ref f)
    | _, _ => false)
  | _ => false
/-- C has its own ==, and != is what object says -/
def NeOk (P : Program) (w : World) (K : PySem.W.Frag) (mg : Str → Option Value) (base : Heap) (k : Nat) (x : Str) (md : MD) : Prop :=
  ∃ (C f : Addr) (fd : FuncData) (ps : List Str) (j : Nat), j + 1 ≤ k ∧ ClsAt K x C ∧ neIn K C f = true ∧ FnOk P w K mg base (L2.CX P w) j f fd ps (spD K mg 2 md) ∧ Binds K fd ps []
theorem NeOk.mono {P : Program} {w : World} {K : PySem.W.Frag} {mg : Str → Option Value} {base : Heap} {j k : Nat} {x : Str} {md : MD} (h : NeOk P w K mg base j x md) (hk : j ≤ k) : NeOk P w K mg base k x md := by
  obtain ⟨C, f, fd, ps, i, hi, h⟩ := h
  exact ⟨C, f, fd, ps, i, by omega, h⟩
theorem NeOk.at_ {P : Program} {w : World} {K K' : PySem.W.Frag} {mg mg' : Str → Option Value} {base : Heap} {k : Nat} {x : Str} {md : MD} (h : NeOk P w K mg base k x md) (hK : K' = K) (hm : mg' = mg) : NeOk P w K' mg' base k x md := by subst hK hm; exact h
def calmM {α : Type} (m : Mo α) : Mo α := fun n Q _ => m n Q fun _ _ => False
def notB (d : D) : Mo D := match d with
  | .bl b => ret (.bl (!b))
  | _ => stop
def isIn (x : Str) (d : D) (k : Mo D) : Mo D := match d with
  | .obj a => getM a fun o => match o with
    | .ins x' _ => need (x' = x) k
    | _ => stop
  | _ => stop
def neID (x : Str) (md : MD) (a b : D) : Mo D := isIn x a (isIn x b (bnd (calmM (md [a, b])) notB))
def rNeI (C : Addr) (sp : Sp) : R2 := fun x y H Q => ∃ a b dx dy fs gs, x = .ref a ∧ y = .ref b ∧ H a = some (.ins C dx fs) ∧ H b = some (.ins C dy gs) ∧ sp [.ref a, .ref b] H (fun v H' => ∃ r, v = .bl r ∧ Q (.bl (!r)) H') fun _ _ _ => False
section
variable {X : Cx} {C f : Addr} {fd : FuncData} {ps : List Str} {sp : Sp} {j : Nat} {yB : Option Value}
end
section
variable {P : Program} {w : World} {base : Heap} {k : Nat} {N : List Str} {sc : Scope} {X : Cx} {c : Cn} {x : Str} {md : MD}
end
end DL

/-! part seventy-four: makings as they are printed -/
namespace DL
open PySem PySem.Spec L2
def mk0T (x : Str) (md : MD) (is : List Nat) (u : DA) : DE := fun env => bnd (u env) (mkKM x md (fun ds es => permL is (ds ++ es)) [])
def mkKT (x : Str) (md : MD) (is : List Nat) (u tk : DA) : DE := fun env => bnd (u env) fun ds => bnd (tk env) (mkKM x md (fun ds es => permL is (ds ++ es)) ds)
def mkT (x : Str) (md : MD) (u : DA) : DE := fun env => bnd (u env) (mkM x md)
section
variable {P : Program} {w : World} {base : Heap} {k : Nat} {N : List Str} {sc : Scope} {X : Cx} {c : Cn} {e : Expr} {es : List Expr} {kws : List Keyword} {u tk : DA} {pos p : Pos} {np : Nat} {md : MD} {x : Str} {ks : List Str} {is : List Nat}
end
section
variable {P : Program} {w : World} {K K' : PySem.W.Frag} {mg mg' : Str → Option Value} {base : Heap} {k : Nat} {x f : Str}
theorem CiOk.at_ (h : CiOk K mg x) (hK : K' = K) (hm : mg' = mg) : CiOk K' mg' x := by subst hK hm; exact h
theorem FdOk.at_ (h : FdOk K x f) (hK : K' = K) : FdOk K' x f := by subst hK; exact h
theorem MkOk.at_ {np : Nat} {md : MD} (h : MkOk P w K mg base k x np md) (hK : K' = K) (hm : mg' = mg) : MkOk P w K' mg' base k x np md := by subst hK hm; exact h
end
end DL

/-! part seventy-five: repr of data that names lists of the store -/
namespace DL
open PySem PySem.Spec L2
mutual
/-- the store's lists in the places of their names -/
def rsv (s : List (Addr × OS)) : D → Option D
  | .obj a => match slook s a with
    | some (.lst l) => some (.lst l)
    | _ => none
  | .tup l => (rsvL s l).map .tup
  | .lst l => (rsvL s l).map .lst
  | .dct _ _ => none
  | .non => some .non
  | .bl b => some (.bl b)
  | .int i => some (.int i)
  | .str z => some (.str z)
  | .deck => none
def rsvL (s : List (Addr × OS)) : List D → Option (List D)
  | [] => some []
  | d :: l => match rsv s d, rsvL s l with
    | some d', some l' => some (d' :: l')
    | _, _ => none
end
section
variable {K : PySem.W.Frag} {dk : DkT} {n : Gn} {H : Hp} {A : Addr → Prop}
theorem rsvL_cons {s : List (Addr × OS)} {d : D} {l l' : List D} (h : rsvL s (d :: l) = some l') : ∃ d1 l1, rsv s d = some d1 ∧ rsvL s l = some l1 ∧ l' = d1 :: l1 := by
  unfold rsvL at h
  split at h
  · rename_i d1 l1 h1 h2
    cases h
    exact ⟨d1, l1, h1, h2, rfl⟩
  · cases h
theorem rsv_tup {s : List (Addr × OS)} {l : List D} {d' : D} (h : rsv s (.tup l) = some d') : ∃ l1, rsvL s l = some l1 ∧ d' = .tup l1 := by
  unfold rsv at h
  cases q : rsvL s l with
  | none => rw [q] at h; cases h
  | some l1 => rw [q] at h; cases h; exact ⟨l1, rfl, rfl⟩
theorem rsv_lst {s : List (Addr × OS)} {l : List D} {d' : D} (h : rsv s (.lst l) = some d') : ∃ l1, rsvL s l = some l1 ∧ d' = .lst l1 := by
  unfold rsv at h
  cases q : rsvL s l with
  | none => rw [q] at h; cases h
  | some l1 => rw [q] at h; cases h; exact ⟨l1, rfl, rfl⟩
theorem rsv_obj {s : List (Addr × OS)} {a : Addr} {d' : D} (h : rsv s (.obj a) = some d') : ∃ l, slook s a = some (.lst l) ∧ d' = .lst l := by
  unfold rsv at h
  split at h
  · rename_i l q
    cases h
    exact ⟨l, q, rfl⟩
  · cases h
theorem sub_isT {s : List (Addr × OS)} {d d' : D} (h : rsv s d = some d') : isTupD d' = isTupD d := by
  cases d with
  | tup l => obtain ⟨l1, _, rfl⟩ := rsv_tup h; rfl
  | lst l => obtain ⟨l1, _, rfl⟩ := rsv_lst h; rfl
  | obj a => obtain ⟨l, _, rfl⟩ := rsv_obj h; rfl
  | _ => unfold rsv at h; cases h <;> rfl
theorem sub_tups {s : List (Addr × OS)} : ∀ {l l' : List D}, rsvL s l = some l' → tupsB l' = tupsB l
  | [], l', h => by unfold rsvL at h; cases h; rfl
  | d :: l, l', h => by
    obtain ⟨d1, l1, h1, h2, rfl⟩ := rsvL_cons h
    show (isTupD d1 && tupsB l1) = (isTupD d && tupsB l)
    rw [sub_isT h1, sub_tups h2]
mutual
theorem Rp.sub (vi : VI K dk n H) : ∀ {d : D} {v : V} {d' : D}, Rp K dk H A v d → rsv n.sto d = some d' → Rp K dk H (fun _ => False) v d'
  | _, _, _, .non, h => by unfold rsv at h; cases h; exact .non
  | _, _, _, .bl b, h => by unfold rsv at h; cases h; exact .bl b
  | _, _, _, .int i, h => by unfold rsv at h; cases h; exact .int i
  | _, _, _, .str z, h => by unfold rsv at h; cases h; exact .str z
  | _, _, _, .tup g t p, h => by
    obtain ⟨l1, h1, rfl⟩ := rsv_tup h
    exact .tup g (RpL.sub vi t h1) fun e => p (by rw [← sub_tups h1]; exact e)
  | _, _, _, .lst g _ t, h => by
    obtain ⟨l1, h1, rfl⟩ := rsv_lst h
    exact .lst g id (RpL.sub vi t h1)
  | _, _, _, .dct _ _ _ _, h => by unfold rsv at h; cases h
  | _, _, _, .deck _, h => by unfold rsv at h; cases h
  | _, _, _, .obj, h => by
    obtain ⟨l, h1, rfl⟩ := rsv_obj h
    obtain ⟨_, xs, g1, g2⟩ := vi.st _ _ h1
    exact .lst g1 id g2
theorem RpL.sub (vi : VI K dk n H) : ∀ {ds : List D} {vs : List V} {ds' : List D}, RpL K dk H A vs ds → rsvL n.sto ds = some ds' → RpL K dk H (fun _ => False) vs ds'
  | _, _, _, .nil, h => by unfold rsvL at h; cases h; exact .nil
  | _, _, _, .cons r t, h => by
    obtain ⟨d1, l1, h1, h2, rfl⟩ := rsvL_cons h
    exact .cons (Rp.sub vi r h1) (RpL.sub vi t h2)
end
theorem Rw.sub (vi : VI K dk n H) {d : D} {v : V} {d' : D} (r : Rw K dk n H A v d) (h : rsv n.sto d = some d') : Rp K dk H (fun _ => False) v d' := by
  cases d with
  | lst l =>
    obtain ⟨p, xs, rfl, _, h1, h2⟩ := r
    obtain ⟨l1, q, rfl⟩ := rsv_lst h
    exact .lst h1 id (RpL.sub vi h2 q)
  | dct ks l => unfold rsv at h; cases h
  | non => exact Rp.sub vi r h
  | bl b => exact Rp.sub vi r h
  | int i => exact Rp.sub vi r h
  | str z => exact Rp.sub vi r h
  | tup l => exact Rp.sub vi r h
  | deck => exact Rp.sub vi r h
  | obj a => exact Rp.sub vi r h
end
def reprSD (d : D) : Mo D := fun n Q X => ∃ d', rsv n.sto d = some d' ∧ reprD d' n Q X
section
variable {P : Program} {w : World} {base : Heap} {k : Nat} {N : List Str} {sc : Scope} {X : Cx} {c : Cn} {ma : Md}
theorem o_reprS : OpC c ma .s (rRepr c.K) reprSD := by
  intro own env n σ H0 H x a Q R ra g
  obtain ⟨Qd, ⟨d', hs, g1⟩, g2⟩ := g
  have g : Go c own env H n .s (reprD d') Q := ⟨Qd, g1, g2⟩
  obtain ⟨h, g⟩ := g.need'
  simp only [shOk, Bool.and_eq_true, decide_eq_true_eq] at h
  obtain ⟨⟨⟨⟨h1, h2⟩, h3⟩, h4⟩, h5⟩ := h
  exact ⟨x, py d', rfl, (Rp.dp h1 ((R.weak ra).sub R.vi hs)).1, h2, okD_noDict h1, h3, h4, g.done R (Rp.str h5)⟩
theorem c_reprS (G : Gd P w base k N sc X c) (hg : X.A.guards = some []) : CalX X c (.builtin "repr") .s reprSD := ⟨_, call_reprA hg G.hu, fun _ => by rw [G.K]; exact o_reprS⟩
end
section
variable {K K' : PySem.W.Frag} {mg mg' : Str → Option Value} {x f : Str} {cv : Value} {tb : List (Str × Bool)}
theorem ExG.at_ (h : ExG K mg x) (hK : K' = K) (hm : mg' = mg) : ExG K' mg' x := by subst hK hm; exact h
theorem ExFo.at_ (h : ExFo K x f) (hK : K' = K) : ExFo K' x f := by subst hK; exact h
theorem ExBo.at_ (h : ExBo K mg x tb) (hK : K' = K) (hm : mg' = mg) : ExBo K' mg' x tb := by subst hK hm; exact h
theorem ExB.at_ (h : ExB K cv tb) (hK : K' = K) : ExB K' cv tb := by subst hK; exact h
end
end DL

/-! the mathematics' own tools: computations run, loops by invariant -/
namespace DL
open PySem PySem.Spec L2

/-- item by item -/
inductive All2 {α β : Type} (R : α → β → Prop) : List α → List β → Prop
  | nil : All2 R [] []
  | cons {x : α} {y : β} {xs : List α} {ys : List β} : R x y → All2 R xs ys → All2 R (x :: xs) (y :: ys)
theorem All2.length {α β : Type} {R : α → β → Prop} : ∀ {xs : List α} {ys : List β}, All2 R xs ys → ys.length = xs.length
  | _, _, .nil => rfl
  | _, _, .cons _ t => by simp [t.length]
/-- made by a function from witnesses -/
theorem All2.map {α β γ : Type} {R : α → β → Prop} {enc : γ → β} {Q : α → γ → Prop} (hR : ∀ x y, R x y → ∃ z, y = enc z ∧ Q x z) : ∀ {xs : List α} {ys : List β}, All2 R xs ys → ∃ zs, ys = zs.map enc ∧ All2 Q xs zs
  | _, _, .nil => ⟨[], rfl, .nil⟩
  | _, _, .cons r t => by
    obtain ⟨z, e, q⟩ := hR _ _ r
    obtain ⟨zs, e2, q2⟩ := All2.map hR t
    exact ⟨z :: zs, by rw [e, e2]; rfl, .cons q q2⟩
theorem All2.mem {α β : Type} {R : α → β → Prop} {P : β → Prop} (h : ∀ x y, R x y → P y) : ∀ {xs : List α} {ys : List β}, All2 R xs ys → ∀ y ∈ ys, P y
  | _, _, .nil, _, hy => by cases hy
  | _, _, .cons r t, y, hy => by
    rcases List.mem_cons.mp hy with e | hy
    · rw [e]; exact h _ _ r
    · exact All2.mem h t y hy
/-- from n draws left at most b are used, and the value is as Q says -/
def Run {α : Type} (m : Mo α) (b : Nat) (Q : α → Prop) : Prop := ∀ (n : Gn) (Qd : α → Gn → Prop) (Xd : XD → Gn → Prop), b ≤ n.k → (∀ a (n' : Gn), n'.k ≤ n.k → n.k ≤ n'.k + b → n'.sto = n.sto → Q a → Qd a n') → m n Qd Xd
theorem Run.ret {α : Type} {a : α} {b : Nat} {Q : α → Prop} (h : Q a) : Run (DL.ret a) b Q := fun n Qd Xd hb hq => hq a n (Nat.le_refl _) (Nat.le_add_right _ _) rfl h
theorem Run.mono {α : Type} {m : Mo α} {b b' : Nat} {Q Q' : α → Prop} (h : Run m b Q) (hb : b ≤ b') (hQ : ∀ a, Q a → Q' a) : Run m b' Q' :=
  fun n Qd Xd hn hq => h n Qd Xd (by omega) fun a n' h1 h2 h4 h3 => hq a n' h1 (by omega) h4 (hQ a h3)
theorem Run.bnd {α β : Type} {m : Mo α} {f : α → Mo β} {b1 b2 : Nat} {Q1 : α → Prop} {Q : β → Prop} (h : Run m b1 Q1) (hf : ∀ a, Q1 a → Run (f a) b2 Q) : Run (DL.bnd m f) (b1 + b2) Q := by
  intro n Qd Xd hb hq
  refine h n _ Xd (by omega) fun a n1 h1 h2 h4 h3 => ?_
  exact hf a h3 n1 Qd Xd (by omega) fun c n2 k1 k2 k4 k3 => hq c n2 (by omega) (by omega) (k4.trans h4) k3
end DL

/-! data of stores and books -/
namespace DL
open PySem PySem.Spec L2
abbrev Row := List Str
def encA (a : Row) : D := .tup (a.map .str)
def encR (r : List Row × List Row) : D := .tup [.tup (r.1.map encA), .tup (r.2.map encA)]
def encK (k : Str × List Int) : D := .tup [.str k.1, .tup (k.2.map .int)]
def encB (b : List (List Row × List Row) × List (Str × List Int)) : D := .tup [.tup (b.1.map encR), .tup (b.2.map encK)]
/-! what may be compared -/
theorem eqB_str (a b : Str) : eqB (.str a) (.str b) = decide (a = b) := by
  simp only [eqB, py, PyData.eqv]
  exact Bool.beq_eq_decide_eq a b
theorem eqB_int (a b : Int) : eqB (.int a) (.int b) = decide (a = b) := by
  simp only [eqB, py, PyData.eqv]
  exact Bool.beq_eq_decide_eq a b
theorem okL_map {α : Type} (enc : α → D) (h : ∀ x, okD (enc x) = true) : ∀ xs : List α, okL (xs.map enc) = true
  | [] => rfl
  | x :: xs => by simp [okL, h x, okL_map enc h xs]
theorem depL_map {α : Type} (enc : α → D) {n : Nat} (h : ∀ x, (py (enc x)).depth ≤ n) : ∀ xs : List α, PyData.depthAll (pyL (xs.map enc)) ≤ n
  | [] => Nat.zero_le _
  | x :: xs => by
    simp only [List.map_cons, pyL, PyData.depthAll]
    exact Nat.max_le.mpr ⟨h x, depL_map enc h xs⟩
theorem cmpOk_of {d : D} (h : okD d = true) (h2 : (py d).depth ≤ 60) : cmpOk d = true := by
  unfold cmpOk
  rw [h, decide_eq_true h2]
  rfl
end DL
namespace DL
open PySem PySem.Spec L2
end DL
namespace DL
open PySem PySem.Spec L2
theorem Bool.tf (b : Bool) : b = true ∨ b = false := by cases b <;> simp
end DL
namespace DL
open PySem PySem.Spec L2
end DL
namespace DL
open PySem PySem.Spec L2
theorem le_sz {n : Nat} (h : n ≤ 1000) : n ≤ sizeLine := Nat.le_of_lt (small1000 h)
end DL

namespace DL
open PySem PySem.Spec L2
end DL
namespace DL
open PySem PySem.Spec L2
end DL

/-! typed computations, and how the data computations follow them -/
namespace DL
open PySem PySem.Spec L2

/-- a typed computation: a value, no value, an error, a drawn number, the store read, changed, grown -/
inductive Pg (α : Type) : Type
  | ret (a : α)
  | stop
  | throw (x : XD)
  | draw (m : Int) (k : Int → Pg α)
  | get (a : Addr) (k : OS → Pg α)
  | set (a : Addr) (o : OS) (k : Pg α)
  | new (o : OS) (k : Addr → Pg α)
namespace Pg
variable {α β γ : Type}
def bind : Pg α → (α → Pg β) → Pg β
  | .ret a, f => f a
  | .stop, _ => .stop
  | .throw x, _ => .throw x
  | .draw m k, f => .draw m fun r => (k r).bind f
  | .get a k, f => .get a fun o => (k o).bind f
  | .set a o k, f => .set a o (k.bind f)
  | .new o k, f => .new o fun a => (k a).bind f
/-- what it means -/
def wp : Pg α → Gn → (α → Gn → Prop) → (XD → Gn → Prop) → Prop
  | .ret a, n, Q, _ => Q a n
  | .stop, _, _, _ => False
  | .throw x, n, _, X => X x n
  | .draw m k, n, Q, X => 0 < n.k ∧ 0 < m ∧ m < 1073741824 ∧ ∀ r : Int, 0 ≤ r → r < m → wp (k r) ⟨n.k - 1, n.sto⟩ Q X
  | .get a k, n, Q, X => ∃ o, slook n.sto a = some o ∧ wp (k o) n Q X
  | .set a o k, n, Q, X => Mu n a ∧ lfS o = true ∧ wp k (n.put a o) Q X
  | .new o k, n, Q, X => lfS o = true ∧ ∀ a, ¬ Mu n a → wp (k a) (n.add a o) Q X
theorem bind_ret (a : α) (f : α → Pg β) : (Pg.ret a).bind f = f a := rfl
theorem bind_assoc (p : Pg α) (f : α → Pg β) (g : β → Pg γ) : (p.bind f).bind g = p.bind fun a => (f a).bind g := by
  induction p with
  | draw m k ih => simp only [bind]; congr 1; funext r; exact ih r
  | get a k ih => simp only [bind]; congr 1; funext r; exact ih r
  | set a o k ih => simp only [bind]; congr 1
  | new o k ih => simp only [bind]; congr 1; funext r; exact ih r
  | _ => rfl
theorem wp_bind {p : Pg α} {f : α → Pg β} : ∀ {n : Gn} {Q : β → Gn → Prop} {X : XD → Gn → Prop}, wp (p.bind f) n Q X ↔ wp p n (fun a n' => wp (f a) n' Q X) X := by
  induction p with
  | draw m k ih =>
    intro n Q X
    simp only [bind, wp]
    constructor
    · exact fun ⟨a, b, c, h⟩ => ⟨a, b, c, fun r h1 h2 => (ih r).mp (h r h1 h2)⟩
    · exact fun ⟨a, b, c, h⟩ => ⟨a, b, c, fun r h1 h2 => (ih r).mpr (h r h1 h2)⟩
  | get a k ih =>
    intro n Q X
    simp only [bind, wp]
    exact ⟨fun ⟨o, e, h⟩ => ⟨o, e, (ih o).mp h⟩, fun ⟨o, e, h⟩ => ⟨o, e, (ih o).mpr h⟩⟩
  | set a o k ih =>
    intro n Q X
    simp only [bind, wp]
    exact ⟨fun ⟨e, f, h⟩ => ⟨e, f, ih.mp h⟩, fun ⟨e, f, h⟩ => ⟨e, f, ih.mpr h⟩⟩
  | new o k ih =>
    intro n Q X
    simp only [bind, wp]
    exact ⟨fun ⟨e, h⟩ => ⟨e, fun a ha => (ih a).mp (h a ha)⟩, fun ⟨e, h⟩ => ⟨e, fun a ha => (ih a).mpr (h a ha)⟩⟩
  | _ => intros; exact Iff.rfl
theorem wp_mono {p : Pg α} : ∀ {n : Gn} {Q Q' : α → Gn → Prop} {X X' : XD → Gn → Prop}, (∀ a n, Q a n → Q' a n) → (∀ x n, X x n → X' x n) → wp p n Q X → wp p n Q' X' := by
  induction p with
  | ret a => exact fun h _ q => h _ _ q
  | stop => exact fun _ _ q => q
  | throw x => exact fun _ h q => h _ _ q
  | draw m k ih => exact fun h1 h2 ⟨a, b, c, h⟩ => ⟨a, b, c, fun r k1 k2 => ih r h1 h2 (h r k1 k2)⟩
  | get a k ih => exact fun h1 h2 ⟨o, e, h⟩ => ⟨o, e, ih o h1 h2 h⟩
  | set a o k ih => exact fun h1 h2 ⟨e, f, h⟩ => ⟨e, f, ih h1 h2 h⟩
  | new o k ih => exact fun h1 h2 ⟨e, h⟩ => ⟨e, fun a ha => ih a h1 h2 (h a ha)⟩
def req (c : Prop) [Decidable c] (p : Pg α) : Pg α := if c then p else .stop
theorem wp_req {c : Prop} [Decidable c] {p : Pg α} {n : Gn} {Q : α → Gn → Prop} {X : XD → Gn → Prop} : wp (req c p) n Q X ↔ c ∧ wp p n Q X := by
  unfold req
  by_cases h : c
  · rw [if_pos h]; exact ⟨fun q => ⟨h, q⟩, fun q => q.2⟩
  · rw [if_neg h]; exact ⟨fun q => q.elim, fun q => absurd q.1 h⟩
theorem req_t {c : Prop} [Decidable c] {p : Pg α} (h : c) : req c p = p := if_pos h
/-- an error stops it -/
def nox : Pg α → Pg α
  | .ret a => .ret a
  | .stop => .stop
  | .throw _ => .stop
  | .draw m k => .draw m fun r => nox (k r)
  | .get a k => .get a fun r => nox (k r)
  | .set a o k => .set a o (nox k)
  | .new o k => .new o fun r => nox (k r)
theorem wp_nox {p : Pg α} : ∀ {n : Gn} {Q : α → Gn → Prop} {X : XD → Gn → Prop}, wp (nox p) n Q X ↔ wp p n Q fun _ _ => False := by
  induction p with
  | draw m k ih =>
    intro n Q X
    simp only [nox, wp]
    constructor
    · exact fun ⟨a, b, c, h⟩ => ⟨a, b, c, fun r h1 h2 => (ih r).mp (h r h1 h2)⟩
    · exact fun ⟨a, b, c, h⟩ => ⟨a, b, c, fun r h1 h2 => (ih r).mpr (h r h1 h2)⟩
  | get a k ih =>
    intro n Q X
    simp only [nox, wp]
    exact ⟨fun ⟨o, e, h⟩ => ⟨o, e, (ih o).mp h⟩, fun ⟨o, e, h⟩ => ⟨o, e, (ih o).mpr h⟩⟩
  | set a o k ih =>
    intro n Q X
    simp only [nox, wp]
    exact ⟨fun ⟨e, f, h⟩ => ⟨e, f, ih.mp h⟩, fun ⟨e, f, h⟩ => ⟨e, f, ih.mpr h⟩⟩
  | new o k ih =>
    intro n Q X
    simp only [nox, wp]
    exact ⟨fun ⟨e, h⟩ => ⟨e, fun a ha => (ih a).mp (h a ha)⟩, fun ⟨e, h⟩ => ⟨e, fun a ha => (ih a).mpr (h a ha)⟩⟩
  | _ => intros; exact Iff.rfl
/-- errors caught -/
def try_ : Pg α → (XD → Pg α) → Pg α
  | .ret a, _ => .ret a
  | .stop, _ => .stop
  | .throw x, h => h x
  | .draw m k, h => .draw m fun r => try_ (k r) h
  | .get a k, h => .get a fun r => try_ (k r) h
  | .set a o k, h => .set a o (try_ k h)
  | .new o k, h => .new o fun r => try_ (k r) h
/-- item by item -/
def mapM (f : α → Pg β) : List α → Pg (List β)
  | [] => .ret []
  | x :: xs => (f x).bind fun y => (mapM f xs).bind fun ys => .ret (y :: ys)
/-- item by item, some left out -/
def mapO (f : α → Pg (Option β)) : List α → Pg (List β)
  | [] => .ret []
  | x :: xs => (f x).bind fun o => (mapO f xs).bind fun ys => .ret (match o with | none => ys | some y => y :: ys)
theorem mapM_ret {f : α → Pg β} {g : α → β} : ∀ {xs : List α}, (∀ x ∈ xs, f x = .ret (g x)) → mapM f xs = .ret (xs.map g)
  | [], _ => rfl
  | x :: xs, h => by simp only [mapM, h x List.mem_cons_self, bind, mapM_ret fun y hy => h y (List.mem_cons_of_mem _ hy), List.map_cons]
end Pg
/-- the end of a piece of text: it goes on, or leaves -/
inductive Ct (σ ε : Type) : Type
  | nx (s : σ)
  | ex (e : ε)
def Ct.elim {σ ε γ : Type} (f : σ → γ) (g : ε → γ) : Ct σ ε → γ
  | .nx s => f s
  | .ex e => g e
namespace Pg
variable {α β γ σ ρ : Type}
def foldP (body : α → σ → Pg σ) : List α → σ → Pg σ
  | [], s => .ret s
  | x :: xs, s => (body x s).bind fun s' => foldP body xs s'
def forP (body : α → σ → Pg (Ct σ ρ)) : List α → σ → Pg (Ct σ ρ)
  | [], s => .ret (.nx s)
  | x :: xs, s => (body x s).bind fun c => c.elim (fun s' => forP body xs s') fun r => .ret (.ex r)
def whP (cond : σ → Pg Bool) (body : σ → Pg (Ct σ ρ)) : Nat → σ → Pg (Ct σ ρ)
  | 0, _ => .stop
  | f + 1, s => (cond s).bind fun b => if b = true then ((body s).bind fun c => c.elim (fun s' => whP cond body f s') fun r => .ret (.ex r)) else .ret (.nx s)
def whF (cond : σ → Pg Bool) (body : σ → Pg σ) : Nat → σ → Pg σ
  | 0, _ => .stop
  | f + 1, s => (cond s).bind fun b => if b = true then (body s).bind fun s' => whF cond body f s' else .ret s
end Pg

/-! ### data computations that follow typed ones -/
section
variable {α β γ δ : Type}
def MP (m : Mo α) (a : α) : Prop := ∀ (n : Gn) (Q : α → Gn → Prop) (X : XD → Gn → Prop), Q a n → m n Q X
def ME (m : Mo β) (p : Pg α) (e : α → β) : Prop := ∀ (n : Gn) (Q : β → Gn → Prop) (X : XD → Gn → Prop), Pg.wp p n (fun a n' => Q (e a) n') X → m n Q X
theorem MP.ret {a : α} : MP (DL.ret a) a := fun _ _ _ h => h
theorem MP.me {m : Mo β} {e : α → β} {a : α} (h : MP m (e a)) : ME m (.ret a) e := fun n Q X q => h n Q X q
theorem MP.bnd {m : Mo α} {f : α → Mo β} {a : α} {b : β} (h : MP m a) (hf : MP (f a) b) : MP (DL.bnd m f) b := fun n Q X q => h n _ X (hf n Q X q)
theorem MP.bndE {m : Mo α} {f : α → Mo β} {a : α} {p : Pg γ} {e : γ → β} (h : MP m a) (hf : ME (f a) p e) : ME (DL.bnd m f) p e := fun n Q X q => h n _ X (hf n Q X q)
theorem ME.bnd {m : Mo β} {f : β → Mo δ} {p : Pg α} {e : α → β} {g : α → Pg γ} {e' : γ → δ} (h : ME m p e) (hf : ∀ a, ME (f (e a)) (g a) e') : ME (DL.bnd m f) (p.bind g) e' :=
  fun n Q X q => h n _ X (Pg.wp_mono (fun a n' q => hf a n' Q X q) (fun _ _ q => q) (Pg.wp_bind.mp q))
theorem ME.need {c c' : Prop} [Decidable c'] {m : Mo β} {p : Pg α} {e : α → β} (hc : c' → c) (h : ME m p e) : ME (DL.need c m) (Pg.req c' p) e := fun n Q X q => by
  obtain ⟨q1, q2⟩ := Pg.wp_req.mp q
  exact ⟨hc q1, h n Q X q2⟩
theorem ME.mono {m : Mo β} {p : Pg α} {e e' : α → β} (h : ME m p e) (he : ∀ a, e a = e' a) : ME m p e' := by
  have : e = e' := funext he
  rw [← this]; exact h
theorem ME.rw {m : Mo β} {p p' : Pg α} {e : α → β} (h : ME m p e) (hp : p = p') : ME m p' e := hp ▸ h
theorem MP.need {c : Prop} {m : Mo β} {b : β} (hc : c) (h : MP m b) : MP (DL.need c m) b := fun n Q X q => ⟨hc, h n Q X q⟩
theorem MP.eq {m : Mo α} {a b : α} (h : MP m a) (e : a = b) : MP m b := e ▸ h
theorem MP.of {m : Mo α} {a : α} (h : m = DL.ret a) : MP m a := fun n Q X q => by rw [h]; exact q
end
/-! expressions -/
section
variable {α β γ : Type} {ta tb tc t : DE} {env : Env'} {f : D → Mo D} {g : D → D → Mo D} {x y z : D} {e e1 e2 : α → D} {eb : β → D} {ec : γ → D} {pa : Pg α} {pb : α → Pg β} {pc : Pg γ}
theorem vS_p {i : Nat} {d : D} (h : env[i]? = some (.val d)) : MP (vS i env) d := fun n Q X q => by unfold vS; rw [h]; exact q
theorem kD_p {d : D} : MP (kD d env) d := fun _ _ _ q => q
theorem bin2_PP (ha : MP (ta env) x) (hb : MP (tb env) y) (h : MP (g x y) z) : MP (bin2 ta tb g env) z := MP.bnd ha (MP.bnd hb h)
theorem bin2_PPE {p : Pg γ} (ha : MP (ta env) x) (hb : MP (tb env) y) (h : ME (g x y) p ec) : ME (bin2 ta tb g env) p ec := MP.bndE ha (MP.bndE hb h)
theorem bin2_PE {p : Pg β} {q : β → Pg γ} (ha : MP (ta env) x) (hb : ME (tb env) p eb) (h : ∀ b, ME (g x (eb b)) (q b) ec) : ME (bin2 ta tb g env) (p.bind q) ec := MP.bndE ha (ME.bnd hb h)
theorem bin2_EP {p : Pg α} {q : α → Pg γ} (ha : ME (ta env) p e) (hb : MP (tb env) y) (h : ∀ a, ME (g (e a) y) (q a) ec) : ME (bin2 ta tb g env) (p.bind q) ec := ME.bnd ha fun a => MP.bndE hb (h a)
theorem bin2_EE {p : Pg α} {p2 : Pg β} {q : α → β → Pg γ} (ha : ME (ta env) p e) (hb : ME (tb env) p2 eb) (h : ∀ a b, ME (g (e a) (eb b)) (q a b) ec) : ME (bin2 ta tb g env) (p.bind fun a => p2.bind fun b => q a b) ec := ME.bnd ha fun a => ME.bnd hb (h a)
theorem un1_P (ha : MP (ta env) x) (h : MP (f x) z) : MP (un1 ta f env) z := MP.bnd ha h
theorem un1_PE {p : Pg γ} (ha : MP (ta env) x) (h : ME (f x) p ec) : ME (un1 ta f env) p ec := MP.bndE ha h
theorem un1_E {p : Pg α} {q : α → Pg γ} (ha : ME (ta env) p e) (h : ∀ a, ME (f (e a)) (q a) ec) : ME (un1 ta f env) (p.bind q) ec := ME.bnd ha h
/-- none or not -/
def ifNo {γ : Type} (o : Option α) (p : γ) (q : α → γ) : γ := match o with
  | none => p
  | some a => q a
/-! slices -/
variable {o1 o2 : DO} {h3 : D → Option Int → Option Int → Mo D} {l h : Option Int}
/-! arguments -/
variable {u v : DA} {K : List D → Mo D} {d : D}
theorem arg0 {p : Pg γ} (h : ME (K []) p ec) : ME (bnd (nilA env) K) p ec := h
theorem argP {p : Pg γ} (h1 : MP (t env) d) (h2 : ME (bnd (u env) fun ds => K (d :: ds)) p ec) : ME (bnd (consA t u env) K) p ec := fun n Q X q => h1 n _ X (h2 n Q X q)
theorem argE {q : Pg α} {p : α → Pg γ} (h1 : ME (t env) q e) (h2 : ∀ a, ME (bnd (u env) fun ds => K (e a :: ds)) (p a) ec) : ME (bnd (consA t u env) K) (q.bind p) ec :=
  fun n Q X r => h1 n _ X (Pg.wp_mono (fun a n' q => h2 a n' Q X q) (fun _ _ q => q) (Pg.wp_bind.mp r))
theorem arg0P (h : MP (K []) x) : MP (bnd (nilA env) K) x := h
theorem argPP (h1 : MP (t env) d) (h2 : MP (bnd (u env) fun ds => K (d :: ds)) x) : MP (bnd (consA t u env) K) x := fun n Q X q => h1 n _ X (h2 n Q X q)
theorem tupT_p (h : MP (bnd (u env) fun ds => need (ds.length ≤ sizeLine) (ret (.tup ds))) x) : MP (tupT u env) x := h
theorem lstT_e {p : Pg γ} (h : ME (bnd (u env) fun ds => need (ds.length ≤ sizeLine) (ret (.lst ds))) p ec) : ME (lstT u env) p ec := h
theorem lstT_p (h : MP (bnd (u env) fun ds => need (ds.length ≤ sizeLine) (ret (.lst ds))) x) : MP (lstT u env) x := h
theorem callT_e {m : MD} {p : Pg γ} (h : ME (bnd (u env) m) p ec) : ME (callT m u env) p ec := h
end
end DL

/-! statements that follow typed computations -/
namespace DL
open PySem PySem.Spec L2
section
variable {α β γ σ ρ : Type}
abbrev JK := Nat → EV
/-- the statement follows the typed computation; J: what its ends mean -/
def Blk (t : DS) (env : Env') (m : Pg γ) (J : DK → γ → Gn → Prop) : Prop := ∀ (k : DK) (Xd : XD → Gn → Prop) (n : Gn), Pg.wp m n (J k) Xd → t env k (fun _ => Xd) n
/-- a def's end -/
def JF (e : ρ → D) : DK → ρ → Gn → Prop := fun k r n => k.rt (e r) n
/-- it goes on: the slots that are read later as told, the others anyhow -/
def JN (mk : σ → JK → Env') : DK → σ → Gn → Prop := fun k s n => ∀ j, k.nx (mk s j) n
def JC (mk : σ → JK → Env') (e : ρ → D) : DK → Ct σ ρ → Gn → Prop := fun k c n => match c with
  | .nx s => ∀ j, k.nx (mk s j) n
  | .ex r => k.rt (e r) n
/-- the end of a turn -/
def JG (ks : List Nat) (mk : σ → Env') : DK → σ → Gn → Prop := fun k s n => ∀ e', killE ks e' = mk s → k.ct e' n ∧ k.nx e' n
def JH (ks : List Nat) (mk : σ → Env') (e : ρ → D) : DK → Ct σ ρ → Gn → Prop := fun k c n => match c with
  | .nx s => ∀ e', killE ks e' = mk s → k.ct e' n ∧ k.nx e' n
  | .ex r => k.rt (e r) n
def memN (i : Nat) : List Nat → Bool
  | [] => false
  | k :: ks => bif Nat.beq i k then true else memN i ks
/-- killE, place by place -/
def kil (ks : List Nat) : Nat → Env' → Env'
  | _, [] => []
  | i, x :: xs => (bif memN i ks then EV.no else x) :: kil ks (i + 1) xs
theorem kil_get (ks : List Nat) : ∀ (env : Env') (i j : Nat), (kil ks i env)[j]? = (env[j]?).map fun x => bif memN (i + j) ks then EV.no else x
  | [], _, _ => by simp [kil]
  | x :: xs, i, 0 => by simp [kil]
  | x :: xs, i, j + 1 => by
    simp only [kil, List.getElem?_cons_succ, kil_get ks xs (i + 1) j, show i + 1 + j = i + (j + 1) from by omega]
theorem killE_get : ∀ (ks : List Nat) (env : Env') (j : Nat), (killE ks env)[j]? = (env[j]?).map fun x => bif memN j ks then EV.no else x
  | [], env, j => by simp [killE, memN]
  | k :: ks, env, j => by
    show ((killE ks env).set k .no)[j]? = _
    rw [List.getElem?_set]
    by_cases h : k = j
    · subst h
      have hb : Nat.beq k k = true := by simp
      have hl : (killE ks env).length = env.length := by
        clear hb
        induction ks with
        | nil => rfl
        | cons a l ih => show ((killE l env).set a .no).length = _; rw [List.length_set]; exact ih
      simp only [if_true, memN, hb, cond_true, hl]
      by_cases q : k < env.length
      · rw [if_pos q, List.getElem?_eq_getElem q]; rfl
      · rw [if_neg q, List.getElem?_eq_none (by omega)]; rfl
    · have hb : Nat.beq j k = false := by
        cases e : Nat.beq j k
        · rfl
        · exact absurd (Nat.eq_of_beq_eq_true e).symm h
      rw [if_neg h, killE_get ks env j]
      simp only [memN, hb, cond_false]
theorem kil_eq (ks : List Nat) (env : Env') : killE ks env = kil ks 0 env := by
  apply List.ext_getElem?
  intro j
  rw [killE_get, kil_get, Nat.zero_add]
variable {t u a b : DS} {env env' : Env'} {m m2 : Pg γ} {J : DK → γ → Gn → Prop} {e : DE} {i : Nat} {d : D} {ea : α → D} {er : ρ → D} {p : Pg α} {l : List D}
theorem b_skip (h : Blk u env m J) : Blk (seqS skipS u) env m J := h
theorem b_assoc {s : DS} (h : Blk (seqS s (seqS t u)) env m J) : Blk (seqS (seqS s t) u) env m J := h
theorem b_endH {ks : List Nat} {mk : σ → Env'} {s : σ} (h : kil ks 0 env = mk s) : Blk skipS env (.ret (.nx s)) (JH ks mk er) := fun k Xd n q => (q env ((kil_eq _ _).trans h)).2
/-- an end's own form: how a value that is returned stands there -/
def Inj (J : DK → γ → Gn → Prop) (er : ρ → D) (inj : ρ → γ) : Prop := ∀ k r n, J k (inj r) n → k.rt (er r) n
theorem inj_F : Inj (JF er) er id := fun _ _ _ q => q
theorem inj_H {ks : List Nat} {mk : σ → Env'} : Inj (JH ks mk er) er .ex := fun _ _ _ q => q
theorem b_ret {r : ρ} {inj : ρ → γ} (hi : Inj J er inj) (h : MP (e env) (er r)) : Blk (seqS (retS e) u) env (.ret (inj r)) J := fun k Xd n q => h n _ _ (hi k r n q)
theorem b_retF {r : ρ} (h : MP (e env) (er r)) : Blk (seqS (retS e) u) env (.ret r) (JF er) := fun k Xd n q => h n _ _ q
theorem b_retFE {p : Pg ρ} (h : ME (e env) p er) : Blk (seqS (retS e) u) env p (JF er) := fun k Xd n q => h n _ _ q
theorem b_seqC {mk : σ → JK → Env'} {m1 : Pg (Ct σ ρ)} {m2 : σ → Pg γ} {inj : ρ → γ} (hi : Inj J er inj) (h1 : Blk t env m1 (JC mk er)) (h2 : ∀ s j, Blk u (mk s j) (m2 s) J) : Blk (seqS t u) env (m1.bind (Ct.elim m2 fun r => .ret (inj r))) J := fun k Xd n q =>
  h1 { k with nx := fun e n' => u e k (fun _ => Xd) n' } Xd n (Pg.wp_mono (fun c n' q => by
    cases c with
    | nx s => exact fun j => h2 s j k Xd n' q
    | ex r => exact hi k r n' q) (fun _ _ q => q) (Pg.wp_bind.mp q))
theorem b_asgE {env' : α → Env'} {m : α → Pg γ} (h : ME (e env) p ea) (he : ∀ a, env.set i (.val (ea a)) = env' a) (hu : ∀ a, Blk u (env' a) (m a) J) : Blk (seqS (asgS i e) u) env (p.bind m) J := fun k Xd n q =>
  h n _ _ (Pg.wp_mono (fun a n' q => by
    show u (env.set i (.val (ea a))) k _ n'
    rw [he]; exact hu a k Xd n' q) (fun _ _ q => q) (Pg.wp_bind.mp q))
/-! lists that grow -/
def Pg.app (xs : List α) (x : α) (m : List α → Pg γ) : Pg γ := Pg.req (xs.length < sizeLine) (m (xs ++ [x]))
def Pg.ext (xs ys : List α) (m : List α → Pg γ) : Pg γ := Pg.req (xs.length + ys.length ≤ sizeLine) (m (xs ++ ys))
/-! if -/
theorem b_iteE {p : Pg Bool} (hc : ME (e env) p D.bl) (ha : Blk (seqS a u) env m J) (hb : Blk (seqS b u) env m2 J) : Blk (seqS (iteS e a b) u) env (p.bind fun c => if c = true then m else m2) J := fun k Xd n q =>
  hc n _ _ (Pg.wp_mono (fun c n' q => by
    cases c with
    | true => exact ⟨fun _ => ha k Xd n' q, fun z => (by cases z), .inl rfl⟩
    | false => exact ⟨fun z => (by cases z), fun _ => hb k Xd n' q, .inr rfl⟩) (fun _ _ q => q) (Pg.wp_bind.mp q))
/-! loops -/
variable {it : DI} {tg : Tg} {ks : List Nat} {bd : DS} {q : Pg (List α)} {xs : List α} {ex : α → D}
theorem forL_c {body : α → σ → Pg (Ct σ ρ)} {mk : σ → Env'} (hb : ∀ x s, ∃ e1, stT tg (ex x) (mk s) = some e1 ∧ Blk bd e1 (body x s) (JH ks mk er)) : ∀ (xs : List α) (s : σ), Blk (forL tg ks bd (xs.map ex)) (mk s) (Pg.forP body xs s) (JC (fun s _ => mk s) er)
  | [], s => fun k Xd n q => q fun _ => .no
  | x :: xs, s => fun k Xd n q => by
    obtain ⟨e1, h1, h2⟩ := hb x s
    simp only [List.map_cons, forL, h1]
    refine h2 _ Xd n (Pg.wp_mono (fun c n' q => ?_) (fun _ _ q => q) (Pg.wp_bind.mp q))
    cases c with
    | nx s' =>
      intro e' he
      dsimp only
      rw [he]
      exact ⟨forL_c hb xs s' k Xd n' q, forL_c hb xs s' k Xd n' q⟩
    | ex r => exact q
theorem b_forCE {body : α → σ → Pg (Ct σ ρ)} {mk : σ → Env'} {s0 : σ} (hit : ME (it env) q (List.map ex)) (h0 : kil ks 0 env = mk s0) (hb : ∀ x s, ∃ e1, stT tg (ex x) (mk s) = some e1 ∧ Blk bd e1 (body x s) (JH ks mk er)) : Blk (forS tg ks it bd) env (q.bind fun xs => Pg.forP body xs s0) (JC (fun s _ => mk s) er) :=
  fun k Xd n w => hit n _ _ (Pg.wp_mono (fun xs n' w => by
    rw [kil_eq, h0]; exact forL_c hb xs s0 k Xd n' w) (fun _ _ w => w) (Pg.wp_bind.mp w))
/-! comprehensions -/
variable {tt te : DE} {vs : List Nat} {eb : β → D}
/-- tests and elements without more -/
def Pg.lcF (p : α → Bool) (g : α → β) (xs : List α) : Pg (List β) := Pg.req (xs.length ≤ sizeLine) (.ret ((xs.filter p).map g))
def Pg.lcA (g : α → β) (xs : List α) : Pg (List β) := Pg.req (xs.length ≤ sizeLine) (.ret (xs.map g))
def Pg.lcO (f : α → Pg (Option β)) (xs : List α) : Pg (List β) := Pg.req (xs.length ≤ sizeLine) (Pg.nox (Pg.mapO f xs))
def Pg.lcM (f : α → Pg β) (xs : List α) : Pg (List β) := Pg.req (xs.length ≤ sizeLine) (Pg.nox (Pg.mapM f xs))
theorem lcL_M {env : Env'} {elt : α → Pg β} (h : ∀ x, ∃ e1, stT tg (ex x) env = some e1 ∧ ME (te e1) (elt x) eb) : ∀ (xs : List α) (acc : List D) (n : Gn) (Q : List D → Gn → Prop) (X : XD → Gn → Prop), acc.length + xs.length ≤ sizeLine →
    Pg.wp (Pg.mapM elt xs) n (fun l n' => Q (acc ++ l.map eb) n') X → lcL tg yesT te env (xs.map ex) acc n Q X
  | [], acc, n, Q, X, hl, q => by
    simp only [Pg.mapM, Pg.wp, List.map_nil, List.append_nil] at q
    exact q
  | x :: xs, acc, n, Q, X, hl, q => by
    obtain ⟨e1, h1, h3⟩ := h x
    simp only [List.map_cons, lcL, h1]
    simp only [List.length_cons] at hl
    have q := Pg.wp_bind.mp q
    refine h3 n _ X (Pg.wp_mono (fun y n2 q => ?_) (fun _ _ q => q) q)
    refine ⟨by omega, ?_⟩
    refine lcL_M h xs (acc ++ [eb y]) n2 Q X (by simp; omega) ?_
    refine Pg.wp_mono (fun l n3 q => ?_) (fun _ _ q => q) (Pg.wp_bind.mp q)
    simpa [Pg.wp] using q
theorem lcT_d' {env : Env'} (hno : noOwn vs env = true) {env1 : Env'} (hk : kil vs 0 env = env1) (xs : List α) {p : Pg (List β)} (hl : ∀ n Q X, xs.length ≤ sizeLine → Pg.wp p n (fun l n' => Q (l.map eb) n') X → lcL tg tt te env1 (xs.map ex) [] n Q X) :
    ME (need (noOwn vs env = true) (bnd (noX (lcL tg tt te (killE vs env) (xs.map ex) [])) fun l => ret (.lst l))) (Pg.req (xs.length ≤ sizeLine) (Pg.nox p)) (fun l => D.lst (l.map eb)) := fun n Q X q => by
  obtain ⟨q1, q2⟩ := Pg.wp_req.mp q
  refine ⟨hno, ?_⟩
  rw [kil_eq, hk]
  exact hl n _ _ q1 (Pg.wp_nox.mp q2)
theorem lcT_E {p : List α → Pg (List β)} (hit : ME (it env) q (List.map ex)) (h : ∀ xs : List α, ME (need (noOwn vs env = true) (bnd (noX (lcL tg tt te (killE vs env) (xs.map ex) [])) fun l => ret (.lst l))) (p xs) (fun l => D.lst (l.map eb))) : ME (lcT tg it tt te vs env) (q.bind p) (fun l => D.lst (l.map eb)) := ME.bnd hit h
theorem lc_M {env1 : Env'} {elt : α → Pg β} (hno : noOwn vs env = true) (hk : kil vs 0 env = env1) (h : ∀ x, ∃ e1, stT tg (ex x) env1 = some e1 ∧ ME (te e1) (elt x) eb) (xs : List α) :
    ME (need (noOwn vs env = true) (bnd (noX (lcL tg yesT te (killE vs env) (xs.map ex) [])) fun l => ret (.lst l))) (Pg.lcM elt xs) (fun l => D.lst (l.map eb)) :=
  lcT_d' hno hk xs fun n Q X hl q => lcL_M h xs [] n Q X (by simpa using hl) (by simpa using q)
theorem mapM_A {g : α → β} {xs : List α} : Pg.mapM (fun x => .ret (g x)) xs = .ret (xs.map g) := Pg.mapM_ret fun _ _ => rfl
theorem lc_A {env1 : Env'} {g : α → β} (hno : noOwn vs env = true) (hk : kil vs 0 env = env1) (h : ∀ x, ∃ e1, stT tg (ex x) env1 = some e1 ∧ MP (te e1) (eb (g x))) (xs : List α) :
    ME (need (noOwn vs env = true) (bnd (noX (lcL tg yesT te (killE vs env) (xs.map ex) [])) fun l => ret (.lst l))) (Pg.lcA g xs) (fun l => D.lst (l.map eb)) :=
  (lc_M (elt := fun x => .ret (g x)) hno hk (fun x => by obtain ⟨e1, h1, h2⟩ := h x; exact ⟨e1, h1, h2.me⟩) xs).rw (by unfold Pg.lcM Pg.lcA; rw [mapM_A]; rfl)
/-! defs -/
theorem t_def {nN : Nat} {t : DS} {ds : List D} {p : Pg ρ} (h0 : envOf nN ds = env) (h : Blk t env p (JF er)) : ME (defM nN t ds) p er := fun n Q X q => by
  show t (envOf nN ds) _ _ n
  rw [h0]
  exact h _ X n q
end
end DL

/-! how typed values stand as data; operations upon them -/
namespace DL
open PySem PySem.Spec L2
section
variable {α β γ δ : Type}
@[reducible] def eL (e : α → D) (l : List α) : D := .lst (l.map e)
@[reducible] def eT (e : α → D) (l : List α) : D := .tup (l.map e)
@[reducible] def eP (e1 : α → D) (e2 : β → D) (p : α × β) : D := .tup [e1 p.1, e2 p.2]
@[reducible] def eP3 (e1 : α → D) (e2 : β → D) (e3 : γ → D) (p : α × β × γ) : D := .tup [e1 p.1, e2 p.2.1, e3 p.2.2]
@[reducible] def eP4 (e1 : α → D) (e2 : β → D) (e3 : γ → D) (e4 : δ → D) (p : α × β × γ × δ) : D := .tup [e1 p.1, e2 p.2.1, e3 p.2.2.1, e4 p.2.2.2]
def eO (e : α → D) : Option α → D
  | none => .non
  | some a => e a
@[reducible] def eD (e : α → D) (l : List (Str × α)) : D := .dct (l.map fun p => .inr p.1) (l.map fun p => e p.2)
@[reducible] def eN : Unit → D := fun _ => .non
@[reducible] def eK : Unit → D := fun _ => .deck
@[reducible] def eV : D → D := id
/-! equality -/
structure EqE (e : α → D) (k : Nat) : Prop where
  ok : ∀ a, okD (e a) = true
  dep : ∀ a, (py (e a)).depth ≤ k
  eq : ∀ a b, eqB (e a) (e b) = true ↔ a = b
theorem EqE.str : EqE D.str 0 := ⟨fun _ => rfl, fun _ => Nat.le_refl _, fun a b => by rw [eqB_str]; exact decide_eq_true_iff⟩
theorem EqE.int : EqE D.int 0 := ⟨fun _ => rfl, fun _ => Nat.le_refl _, fun a b => by rw [eqB_int]; exact decide_eq_true_iff⟩
theorem EqE.bl : EqE D.bl 0 := ⟨fun _ => rfl, fun _ => Nat.le_refl _, fun a b => by cases a <;> cases b <;> simp [eqB, py, PyData.eqv]⟩
theorem eqvAll_map {e : α → D} (h : ∀ a b, eqB (e a) (e b) = true ↔ a = b) : ∀ l m : List α, PyData.eqvAll (pyL (l.map e)) (pyL (m.map e)) = true ↔ l = m
  | [], [] => by simp [pyL, PyData.eqvAll]
  | [], _ :: _ => by simp [pyL, PyData.eqvAll]
  | _ :: _, [] => by simp [pyL, PyData.eqvAll]
  | a :: l, b :: m => by
    simp only [List.map_cons, pyL, PyData.eqvAll, Bool.and_eq_true, eqvAll_map h l m, List.cons.injEq]
    have := h a b
    unfold eqB at this
    rw [this]
theorem EqE.tup {e : α → D} {k : Nat} (h : EqE e k) : EqE (eT e) (k + 1) := ⟨fun l => okL_map e h.ok l, fun l => by
    have := depL_map e h.dep l
    simp only [py, PyData.depth]; omega, fun a b => by
    simp only [eqB, py, PyData.eqv]; exact eqvAll_map h.eq a b⟩
theorem EqE.lst {e : α → D} {k : Nat} (h : EqE e k) : EqE (eL e) (k + 1) := ⟨fun l => okL_map e h.ok l, fun l => by
    have := depL_map e h.dep l
    simp only [py, PyData.depth]; omega, fun a b => by
    simp only [eqB, py, PyData.eqv]; exact eqvAll_map h.eq a b⟩
theorem EqE.pair {e1 : α → D} {e2 : β → D} {j k : Nat} (h1 : EqE e1 j) (h2 : EqE e2 k) : EqE (eP e1 e2) (max j k + 1) := ⟨fun p => by simp [okD, okL, h1.ok, h2.ok], fun p => by
    have a := h1.dep p.1
    have b := h2.dep p.2
    simp only [py, pyL, PyData.depth, PyData.depthAll]; omega, fun a b => by
    have x := h1.eq a.1 b.1
    have y := h2.eq a.2 b.2
    unfold eqB at x y
    simp only [eqB, py, pyL, PyData.eqv, PyData.eqvAll, Bool.and_eq_true, x, y, Bool.true_eq, and_true, Prod.ext_iff]⟩
/-- never None, for is -/
def NI (e : α → D) : Prop := ∀ a, isNo (e a) = false
theorem NI.str : NI D.str := fun _ => rfl
theorem NI.int : NI D.int := fun _ => rfl
theorem NI.bl : NI D.bl := fun _ => rfl
theorem NI.tup {e : α → D} : NI (eT e) := fun _ => rfl
theorem NI.lst {e : α → D} : NI (eL e) := fun _ => rfl
theorem NI.pair {e : α → D} {e2 : β → D} : NI (eP e e2) := fun _ => rfl
theorem NI.dct {e : α → D} : NI (eD e) := fun _ => rfl
/-- never None -/
def NN (e : α → D) : Prop := ∀ a, eqB .non (e a) = false ∧ eqB (e a) .non = false ∧ isNo (e a) = false
theorem NN.str : NN D.str := fun _ => ⟨rfl, rfl, rfl⟩
theorem NN.int : NN D.int := fun _ => ⟨rfl, rfl, rfl⟩
theorem NN.bl : NN D.bl := fun _ => ⟨rfl, rfl, rfl⟩
theorem NN.tup {e : α → D} : NN (eT e) := fun _ => ⟨rfl, rfl, rfl⟩
theorem NN.lst {e : α → D} : NN (eL e) := fun _ => ⟨rfl, rfl, rfl⟩
theorem NN.pair {e : α → D} {e2 : β → D} : NN (eP e e2) := fun _ => ⟨rfl, rfl, rfl⟩
theorem EqE.opt {e : α → D} {k : Nat} (h : EqE e k) (hn : NN e) : EqE (eO e) k := ⟨fun o => by
    cases o
    · rfl
    · exact h.ok _, fun o => by
    cases o
    · exact Nat.zero_le _
    · exact h.dep _, fun a b => by
    cases a <;> cases b
    · simp [eO, eqB, py, PyData.eqv]
    · simp [eO, (hn _).1]
    · simp [eO, (hn _).2.1]
    · simp [eO, h.eq]⟩
variable [DecidableEq α] {e : α → D} {k : Nat} {d : D}
theorem eqB_dec (h : EqE e k) (a b : α) : eqB (e a) (e b) = decide (a = b) := by
  by_cases q : a = b
  · rw [(h.eq a b).mpr q, decide_eq_true q]
  · rw [decide_eq_false q]
    cases z : eqB (e a) (e b)
    · rfl
    · exact absurd ((h.eq a b).mp z) q
theorem EqE.cmp {α : Type} {e : α → D} (h : EqE e k) (hk : k ≤ 60) (a : α) : cmpOk (e a) = true := cmpOk_of (h.ok a) (Nat.le_trans (h.dep a) hk)
theorem t_eq (h : EqE e k) (hk : k ≤ 60) (a b : α) : MP (eqD (e a) (e b)) (.bl (decide (a = b))) := by
  rw [← eqB_dec h]; exact MP.need ⟨h.cmp hk a, h.cmp hk b⟩ MP.ret
theorem t_ne (h : EqE e k) (hk : k ≤ 60) (a b : α) : MP (neD (e a) (e b)) (.bl (!decide (a = b))) := by
  rw [← eqB_dec h]; exact MP.need ⟨h.cmp hk a, h.cmp hk b⟩ MP.ret
end
section
variable {α β γ : Type} {e : α → D} {e2 : β → D} {d : D}
/-! order -/
/-! sums -/
theorem t_addL {l m : List α} : ME (addD (eL e l) (eL e m)) (Pg.req (l.length + m.length ≤ sizeLine) (.ret (l ++ m))) (eL e) := ME.need (c := (l.map e).length + (m.map e).length ≤ sizeLine) (fun h => by simpa using h) (MP.me (by rw [show eL e (l ++ m) = .lst (l.map e ++ m.map e) from by simp [eL]]; exact MP.ret))
/-! items -/
theorem atI_map {f : α → β} {l : List α} {i : Int} : atI (l.map f) i = (atI l i).map f := by
  unfold atI
  simp only [List.length_map]
  cases ixN l.length i with
  | none => rfl
  | some j => simp only [Option.bind_some, List.getElem?_map]
def Pg.at_ (l : List α) (i : Int) : Pg α := match atI l i with
  | some a => .ret a
  | none => .stop
theorem t_ixL {l : List α} {i : Int} : ME (ixD (eL e l) (.int i)) (Pg.at_ l i) e := fun n Q X q => by
  unfold ixD; dsimp only
  rw [atI_map]
  unfold Pg.at_ at q
  cases h : atI l i with
  | none => rw [h] at q; exact q
  | some a => rw [h] at q; exact q
def Pg.atS (z : Str) (i : Int) : Pg Str := Pg.req (z.length ≤ sizeLine) ((Pg.at_ z.cps.toList i).bind fun c => .ret ⟨#[c]⟩)
/-! slices -/
/-! calls of what is built in -/
theorem t_lenL {l : List α} : MP (lenD (eL e l)) (.int l.length) := by
  rw [← List.length_map (f := e)]; exact MP.ret
/-! what is walked -/
def signs (z : Str) : List Str := z.cps.toList.map fun c => ⟨#[c]⟩
variable {t u : DE} {env : Env'} {x y : D} {l : List D}
def rng (i j : Int) : List Int := (List.range (j - i).toNat).map fun n : Nat => i + (n : Int)
def Pg.rng1 (j : Int) : Pg (List Int) := Pg.req (j < 4611686018427387904 ∧ -4611686018427387904 ≤ j) (.ret (rng 0 j))
def Pg.rng2 (i j : Int) : Pg (List Int) := Pg.req ((j < 4611686018427387904 ∧ -4611686018427387904 ≤ j) ∧ (i < 4611686018427387904 ∧ -4611686018427387904 ≤ i)) (.ret (rng i j))
theorem rng_map (i : Int) (j : Int) : (rng i j).map D.int = rangeD i (j - i).toNat := by
  unfold rng rangeD
  rw [List.map_map]; rfl
theorem r1_e {j : Int} : ME (r1D (.int j)) (Pg.rng1 j) (List.map D.int) := ME.need id (MP.me (by
  rw [rng_map, show j - 0 = j from by omega]; exact MP.ret))
theorem rng1_P {j : Int} (h : MP (t env) (.int j)) : ME (DL.rng1 t env) (Pg.rng1 j) (List.map D.int) := MP.bndE h r1_e
end
/-! the draw -/
def Pg.draws (m : Int) : Pg Int := .draw m .ret
theorem t_draw {m : Int} : ME (drawM [.deck, .int m]) (Pg.draws m) D.int := fun n Q X q => q
end DL

/-! more operations upon typed values -/
namespace DL
open PySem PySem.Spec L2
section
variable {α β γ : Type} {e : α → D} {e2 : β → D} {d : D} {t u : DE} {env : Env'} {x y : D} {l : List D}
theorem me_val {m : Mo D} {p : Pg α} (h : ME m p e) : ME m (p.bind fun z => .ret (e z)) eV := fun n Q X q => h n Q X (Pg.wp_mono (fun _ _ q => q) (fun _ _ q => q) (Pg.wp_bind.mp q))
def maxd (l : List Int) (i : Int) : Int := match l with
  | [] => i
  | y :: ys => ys.foldl max y
def Pg.sset (l : List Str) : Pg (List Str) := Pg.req (l.length + 1 < 4096) (.ret (St.srtS l))
def Pg.join (s : Str) (l : List Str) : Pg Str := Pg.req ((l.map (·.length)).sum + l.length * s.length ≤ 16777216 ∧ PyData.strOk (Txt.join s l) = true) (.ret (Txt.join s l))
def Pg.times (l : List α) (k : Int) : Pg (List α) := Pg.req (0 ≤ k ∧ k < 2 ^ 63 ∧ l.length * k.toNat ≤ sizeLine) (.ret (List.replicate k.toNat l).flatten)
def Pg.atP2 (p : α × α) (i : Int) : Pg α := match atI [p.1, p.2] i with
  | some a => .ret a
  | none => .stop
def Pg.lcB (test : α → Pg Bool) (elt : α → Pg β) (xs : List α) : Pg (List β) := Pg.lcO (fun x => (test x).bind fun c => if c = true then (elt x).bind fun y => .ret (some y) else .ret none) xs
theorem disp_e {ds : List D} {f : List D → D} {v : D} (h : ds.length ≤ 1000) (hv : f ds = v) : MP (need (ds.length ≤ sizeLine) (ret (f ds))) v := hv ▸ MP.need (le_sz h) MP.ret
def Pg.ssetR (rs : List (List Str)) : Pg (List (List Str)) := Pg.req ((Rs.dedupR rs).length ≤ 4000 ∧ (rs.all (fun r => !r.isEmpty) || decide ((Rs.dedupR rs).length ≤ 1)) = true) (.ret (Rs.srtR rs))
/-! one of some -/
def t_one (l : List α) : Pg α := (Pg.draws (l.length : Int)).bind fun i => Pg.at_ l i
def t_oneS (z : Str) : Pg Str := Pg.req (z.length ≤ sizeLine) ((Pg.draws (z.length : Int)).bind fun i => Pg.atS z i)
end
end DL

/-! more operations upon typed values: dicts, isinstance, several targets -/
namespace DL
open PySem PySem.Spec L2
/-! dicts keyed by texts -/
section
variable {α β γ : Type}
def dlook (l : List (Str × α)) (k : Str) : Option α := match l with
  | [] => none
  | p :: l => if p.1 = k then some p.2 else dlook l k
def dget (l : List (Str × α)) (k : Str) (z : α) : α := (dlook l k).getD z
def dhas (l : List (Str × α)) (k : Str) : Bool := l.any fun p => decide (p.1 = k)
def dput (l : List (Str × α)) (k : Str) (v : α) : List (Str × α) := if dhas l k = true then l.map (fun p => if p.1 = k then (p.1, v) else p) else l ++ [(k, v)]
def dmerge (l : List (Str × α)) : List (Str × α) := l.foldl (fun acc p => dput acc p.1 p.2) []
variable {e : α → D}
def Pg.atD (l : List (Str × α)) (k : Str) : Pg α := match dlook l k with
  | some a => .ret a
  | none => .stop
def Pg.put (l : List (Str × α)) (k : Str) (v : α) (m : List (Str × α) → Pg γ) : Pg γ := Pg.req (l.length < sizeLine) (m (dput l k v))
variable {u : DS} {env : Env'} {J : DK → γ → Gn → Prop} {i : Nat} {tk tv tg : DE} {ea : α → D}
/-- d.setdefault(k, v) -/
def dset (l : List (Str × α)) (k : Str) (v : α) : List (Str × α) := if dhas l k = true then l else dput l k v
/-- the test of what stands there then -/
def Pg.sdf [DecidableEq α] (l : List (Str × α)) (x : Str) (v g : α) (mA mB : List (Str × α) → Pg γ) : Pg γ := Pg.req (l.length < sizeLine) (if (!decide (dget l x v = g)) = true then mA (dset l x v) else mB (dset l x v))
/-! a.append(b.pop(i)) -/
def Pg.popAt (lb : List α) (z : Int) : Pg (α × List α) := match seqIndex? z lb.length with
  | some m => match lb[m]? with
    | some y => Pg.req (-(2 ^ 63) ≤ z ∧ z < 2 ^ 63) (.ret (y, lb.eraseIdx m))
    | none => .stop
  | none => .stop
def Pg.apop (la lb : List α) (z : Int) (m : List α → List α → Pg γ) : Pg γ := (Pg.popAt lb z).bind fun yb => Pg.app la yb.1 fun a => m a yb.2
/-! several targets -/
theorem b_par2 {j : Nat} {oi oj : Bool} {a b : DE} {pa : Pg α} {pb : Pg β} {eb : β → D} {env' : α → β → Env'} {m : α → β → Pg γ} (ha : ME (a env) pa ea) (hb : ME (b env) pb eb) (hl : decide (i < env.length ∧ j < env.length) = true) (he : ∀ x y, (env.set i (evO oi (ea x))).set j (evO oj (eb y)) = env' x y) (hu : ∀ x y, Blk u (env' x y) (m x y) J) :
    Blk (seqS (par2S i oi a j oj b) u) env (pa.bind fun x => pb.bind fun y => m x y) J := fun k Xd n q =>
  ha n _ _ (Pg.wp_mono (fun x n' q => hb n' _ _ (Pg.wp_mono (fun y n'' q => ⟨of_decide_eq_true hl, by
    show u ((env.set i (evO oi (ea x))).set j (evO oj (eb y))) k _ n''
    rw [he]; exact hu x y k Xd n'' q⟩) (fun _ _ q => q) (Pg.wp_bind.mp q))) (fun _ _ q => q) (Pg.wp_bind.mp q))
end
/-! isinstance, isupper -/
section
variable {α : Type} {e : α → D}
def t_isiV (n : String) (d : D) : Pg Bool := match tyD d with
  | some t => match kitB t n with
    | some b => .ret b
    | none => .stop
  | none => .stop
end
end DL

/-! chains, sorted(list), typed -/
namespace DL
open PySem PySem.Spec L2
section
variable {α β γ : Type} {env : Env'} {ta tb tc : DE} {f g : D → D → Mo D} {ea : α → D} {eb : β → D} {ec : γ → D}
/-- sorted(list) -/
def Pg.sortE (e : α → D) (l : List α) : Pg (List α) := Pg.req (srtOk (l.map e) = true) (.ret (l.mergeSort fun a b => leDT (e a) (e b)))
end
section
variable {α : Type} {e : α → D} {l : List α}
end
section
variable {α : Type} {e : α → D} {env : Env'} {ta tb : DE}
end
/-! those that are not None -/
section
variable {α β : Type} {tg : Tg} {tt te : DE} {vs : List Nat} {env env1 : Env'} {e : α → D} {eb : β → D}
def Pg.lcS (g : α → β) (xs : List (Option α)) : Pg (List β) := Pg.req (xs.length ≤ sizeLine) (.ret (xs.filterMap fun o => o.map g))
end
end DL

/-! comprehensions with two clauses, list(zip), sorted(d.items()), min, typed -/
namespace DL
open PySem PySem.Spec L2
section
variable {α β γ : Type}
def Pg.inn (test : β → Pg Bool) (elt : β → Pg γ) : List β → List γ → Pg (List γ)
  | [], acc => .ret acc
  | y :: ys, acc => (test y).bind fun c => if c = true then (elt y).bind fun z => Pg.req (acc.length < sizeLine) (Pg.inn test elt ys (acc ++ [z])) else Pg.inn test elt ys acc
def Pg.out (test0 : α → Pg Bool) (its : α → Pg (List β)) (test : α → β → Pg Bool) (elt : α → β → Pg γ) : List α → List γ → Pg (List γ)
  | [], acc => .ret acc
  | x :: xs, acc => (test0 x).bind fun c => if c = true then (its x).bind fun ys => (Pg.inn (test x) (elt x) ys acc).bind fun acc' => Pg.out test0 its test elt xs acc' else Pg.out test0 its test elt xs acc
def Pg.lc2 (test0 : α → Pg Bool) (its : α → Pg (List β)) (test : α → β → Pg Bool) (elt : α → β → Pg γ) (xs : List α) : Pg (List γ) := Pg.nox (Pg.out test0 its test elt xs [])
variable {tg tg1 : Tg} {tt tt1 te : DE} {it it1 : DI} {vs vs1 : List Nat} {env env1 : Env'} {ex : α → D} {ey : β → D} {eb : γ → D}
/-! list(zip) -/
/-! sorted(d.items()) -/
def Pg.sortI (e : α → D) (l : List (Str × α)) : Pg (List (Str × α)) := Pg.req (srtOk (l.map (eP D.str e)) = true ∧ l.all (fun p => PyData.strOk p.1) = true) (.ret (l.mergeSort fun a b => leDT (eP D.str e a) (eP D.str e b)))
/-! min -/
def minT (f : α → α → Bool) (x : α) (xs : List α) : α := xs.foldl (fun a y => if f y a = true then y else a) x
def Pg.minE (e : α → D) : List α → Pg α
  | [] => .stop
  | x :: xs => Pg.req (minOk ((x :: xs).map e) = true) (.ret (minT (fun a b => PySem.W.dataLt (py (e a)) (py (e b))) x xs))
def Pg.minK : List (List α) → Pg (List α)
  | [] => .stop
  | x :: xs => .ret (minT (fun a b => decide (a.length < b.length)) x xs)
end
end DL
namespace DL
open PySem PySem.Spec L2
section
variable {α β : Type} {e : α → D} {ta tb tc td : DE} {env : Env'}
end
end DL
namespace DL
open PySem PySem.Spec L2
section
variable {α : Type} {e : α → D}
end
end DL
namespace DL
open PySem PySem.Spec L2
def Pg.timesS (a : Str) (k : Int) : Pg Str := Pg.req (a.length ≤ 64 ∧ -1000 ≤ k ∧ k ≤ 60000) (.ret (Txt.mul a k))
instance {i j : Int} : Decidable (CDiv i j) := inferInstanceAs (Decidable (_ ∧ _))
def Pg.two {α γ : Type} (l : List α) (m : α → α → Pg γ) : Pg γ := match l with
  | [a, b] => m a b
  | _ => .stop
/-- numbered -/
def enum {α : Type} (l : List α) : List (Int × α) := enumF 0 l
  where enumF : Nat → List α → List (Int × α)
    | _, [] => []
    | i, a :: l => ((i : Nat), a) :: enumF (i + 1) l
end DL

/-! errors raised and caught, typed -/
namespace DL
open PySem PySem.Spec L2
section
variable {α β γ σ ρ : Type} {env : Env'} {b u : DS} {J : DK → γ → Gn → Prop} {er : ρ → D}
/-- an error of the class x without fields is caught -/
def Pg.catch (x : Str) (p q : Pg α) : Pg α := Pg.try_ p fun xd => Pg.req (xd.cls = x ∧ xd.fs.isEmpty = true) q
end
end DL
namespace DL
open PySem PySem.Spec L2
/-- the greatest number -/
def Pg.max1 : List Int → Pg Int
  | [] => .stop
  | y :: ys => .ret (ys.foldl max y)
/-- the keys of a dict, walked -/
def Pg.keys {α : Type} (l : List (Str × α)) : Pg (List Str) := Pg.req (l.all (fun p => PyData.strOk p.1) = true) (.ret (l.map (·.1)))
def orL {α : Type} (a b : List α) : List α := match a with
  | [] => b
  | x :: l => x :: l
/-! mixed values -/
def t_ixV (d e : D) : Pg D := match d with
  | .tup l => match e with
    | .int i => Pg.at_ l i
    | _ => .stop
  | .lst l => match e with
    | .int i => Pg.at_ l i
    | _ => .stop
  | .str z => match e with
    | .int i => (Pg.atS z i).bind fun s => .ret (.str s)
    | _ => .stop
  | _ => .stop
def t_eqV (a b : D) : Pg Bool := Pg.req (cmpOk a = true ∧ cmpOk b = true) (.ret (eqB a b))
def t_neV (a b : D) : Pg Bool := Pg.req (cmpOk a = true ∧ cmpOk b = true) (.ret (!eqB a b))
def t_lenV (d : D) : Pg Int := match d with
  | .tup l => .ret (l.length : Int)
  | .lst l => .ret (l.length : Int)
  | .str z => Pg.req (z.length ≤ sizeLine) (.ret (z.length : Int))
  | _ => .stop
def t_itV (d : D) : Pg (List D) := match d with
  | .tup l => .ret l
  | .lst l => .ret l
  | .str z => .ret (strDs z)
  | _ => .stop
/-- int(text) -/
def Pg.intS (s : Str) : Pg Int := match PySem.intText? s with
  | some m => Pg.req (s.length ≤ 640) (.ret m)
  | none => .stop
end DL

namespace DL
open PySem PySem.Spec L2
instance {i j : Int} : Decidable (CMul i j) := inferInstanceAs (Decidable (_ ∨ _))
section
variable {α β γ : Type} {u : DS} {env : Env'} {J : DK → γ → Gn → Prop} {i : Nat} {tk tv tg : DE} {ea : α → D} {e : α → D} {e2 : β → D} {ta tb : DE}
end
/-- sorted(set(t)), t a tuple of whole numbers -/
def Pg.iset (l : List Int) : Pg (List Int) := Pg.req (l.length + 1 < 4096) (.ret (It.srtS l))
/-- tuple(range(n)) -/
def Pg.tupRg (n : Int) : Pg (List Int) := Pg.req (1 ≤ n ∧ n ≤ 1000) (.ret (rng 0 n))
/-- a tuple of texts, times a number -/
def Pg.mulT (l : List Str) (k : Int) : Pg (List Str) := Pg.req (1 ≤ k ∧ k ≤ 1000 ∧ 1 ≤ l.length ∧ l.length ≤ 1000) (.ret (List.replicate k.toNat l).flatten)
end DL

/-! words in a text of signs; an option or a tuple; pairs of one kind walked, and made out of a list -/
namespace DL
open PySem PySem.Spec L2
section
variable {α : Type} {e : α → D} {ta tb : DE} {env : Env'}
def InW (x z : Str) : Prop := 1 ≤ x.length ∧ (x.length = 1 ∨ x.cps.getD 0 0 ∉ z.cps.toList)
instance {x z : Str} : Decidable (InW x z) := inferInstanceAs (Decidable (_ ∧ _))
def orO (o : Option (List α)) (b : List α) : List α := match o with
  | some (x :: l) => x :: l
  | _ => b
def Pg.pair2 : List α → Pg (α × α)
  | [a, b] => .ret (a, b)
  | _ => .stop
end
end DL

/-! mixed values read as typed ones; operations upon mixed values -/
namespace DL
open PySem PySem.Spec L2
section
variable {α β γ : Type} {e : α → D} {e2 : β → D}
/-- f reads what e writes -/
structure Dc (f : D → Option α) (e : α → D) : Prop where
  snd : ∀ d a, f d = some a → d = e a
  cmp : ∀ a, f (e a) = some a
def dcV : D → Option D := some
def dcS : D → Option Str
  | .str s => some s
  | _ => none
def dcI : D → Option Int
  | .int s => some s
  | _ => none
def dcB : D → Option Bool
  | .bl s => some s
  | _ => none
def dcA (f : D → Option α) : List D → Option (List α)
  | [] => some []
  | d :: l => match f d with
    | none => none
    | some a => match dcA f l with
      | none => none
      | some r => some (a :: r)
def dcT (f : D → Option α) : D → Option (List α)
  | .tup l => dcA f l
  | _ => none
def dcL (f : D → Option α) : D → Option (List α)
  | .lst l => dcA f l
  | _ => none
def dcP (f : D → Option α) (g : D → Option β) : D → Option (α × β)
  | .tup [a, b] => match f a with
    | none => none
    | some x => match g b with
      | none => none
      | some y => some (x, y)
  | _ => none
/-- a mixed value read as a typed one -/
def Pg.cast (f : D → Option α) (d : D) : Pg α := match f d with
  | some a => .ret a
  | none => .stop
/-! operations -/
def t_addV (a b : D) : Pg D := match a, b with
  | .int i, .int j => .ret (.int (i + j))
  | .str a, .str b => Pg.req (a.length + b.length ≤ sizeLine) (.ret (.str (a ++ b)))
  | .tup a, .tup b => Pg.req (a.length + b.length ≤ sizeLine) (.ret (.tup (a ++ b)))
  | .lst a, .lst b => Pg.req (a.length + b.length ≤ sizeLine) (.ret (.lst (a ++ b)))
  | _, _ => .stop
def t_slV (d : D) (l h : Option Int) : Pg D := match d with
  | .lst xs => .ret (.lst (cutL xs l h))
  | .tup xs => .ret (.tup (cutL xs l h))
  | .str z => Pg.req (z.length ≤ sizeLine) (.ret (.str (cutS z l h)))
  | _ => .stop
def t_revV : D → Pg D
  | .lst xs => .ret (.lst xs.reverse)
  | .tup xs => .ret (.tup xs.reverse)
  | _ => .stop
def t_listV : D → Pg (List D)
  | .lst xs => .ret xs
  | .tup xs => .ret xs
  | _ => .stop
def t_inV (a : D) (l : List D) : Pg Bool := Pg.req (cmpOk a = true ∧ cmpOk (.tup l) = true) (.ret (l.any fun z => eqB z a))
theorem disp_v {ds : List D} {f : List D → D} {v : D} (h : ds.length ≤ 1000) (hv : f ds = v) : MP (need (ds.length ≤ sizeLine) (ret (f ds))) (eV v) := disp_e h hv
/-- text.index(x) -/
def Pg.index (z x : Str) : Pg Int := match Builtin.Str.occurrences z x 0 z.length 1 with
  | i :: _ => .ret (i : Nat)
  | [] => .stop
/-- an optional value that is there -/
def Pg.opt {α : Type} (o : Option α) : Pg α := match o with
  | some a => .ret a
  | none => .stop
variable {γ : Type} {i j l m : Nat} {env : Env'} {u : DS} {J : DK → γ → Gn → Prop}
end
end DL

/-! except C as e, typed -/
namespace DL
open PySem PySem.Spec L2
section
variable {α β γ σ ρ : Type} {env : Env'} {b u : DS} {J : DK → γ → Gn → Prop} {er : ρ → D}
/-- errors of some classes are caught -/
def Pg.catchX (cs : List Str) (p : Pg α) (q : XD → Pg α) : Pg α := Pg.try_ p fun xd => Pg.req (xd.cls ∈ cs ∧ lfL (xd.fs.map (·.2)) = true) (q xd)
/-- errors come with the slots as they are -/
def XAt (b : DS) (env : Env') : Prop := ∀ (k : DK) (X : XQ) (n : Gn), b env k (fun _ => X env) n → b env k X n
def t_fld (xd : XD) (f : Str) : Pg D := match xd.fs.lookup f with
  | some v => .ret v
  | none => .stop
end
end DL

/-! any tuple times a number, typed -/
namespace DL
open PySem PySem.Spec L2
def Pg.timesF {α : Type} (l : List α) (k : Int) : Pg (List α) := Pg.req (1 ≤ k ∧ k ≤ 1000 ∧ l.length ≤ 1000) (.ret (List.replicate k.toNat l).flatten)
end DL

/-! split; errors with fields -/
namespace DL
open PySem PySem.Spec L2
section
variable {α β γ : Type} {env : Env'} {u : DS} {J : DK → γ → Gn → Prop} {ea : α → D} {eb : β → D} {t1 t2 : DE} {p : Pg α} {q : Pg β}
def Pg.splitP (y x : Str) : Pg (List Str) := Pg.req (x.length + 2 ≤ sizeLine) (.ret (Txt.split x y))
end
end DL

/-! items of own lists stored; the last one taken off -/
namespace DL
open PySem PySem.Spec L2
section
variable {α β γ δ : Type} {env : Env'} {u : DS} {J : DK → γ → Gn → Prop} {ea : α → D} {eb : β → D} {eg : δ → D} {ti tv tb tg : DE} {i l j m : Nat} {oj om : Bool}
def Pg.putL (l : List α) (z : Int) (v : α) (k : List α → Pg γ) : Pg γ := match ixN l.length z with
  | some j => k (l.set j v)
  | none => .stop
def Pg.popL (l : List α) (k : α → List α → Pg γ) : Pg γ := match l[l.length - 1]? with
  | some y => k y l.dropLast
  | none => .stop
end
end DL

/-! comprehensions over own lists -/
namespace DL
open PySem PySem.Spec L2
def Pg.idxP (ys : List Str) (z : Str) : Pg Int := match idxS ys z with
  | some j => .ret ((j : Nat) : Int)
  | none => .stop
end DL

/-! typed computations with lists and things in the store -/
namespace DL
open PySem PySem.Spec L2
open Classical in
noncomputable def invE {α : Type} (e : α → D) (d : D) : Option α := if h : ∃ a, e a = d then some h.choose else none
def Inv1 {α : Type} (e : α → D) : Prop := ∀ a b, e a = e b → a = b
theorem EqE.inj {α : Type} {e : α → D} {k : Nat} (h : EqE e k) : Inv1 e := fun a b q => (h.eq a b).mp (by rw [q]; exact (h.eq b b).mpr rfl)
theorem map_inj {α : Type} {e : α → D} (h : Inv1 e) : ∀ {a b : List α}, a.map e = b.map e → a = b
  | [], [], _ => rfl
  | [], _ :: _, q => by cases q
  | _ :: _, [], q => by cases q
  | x :: a, y :: b, q => by
    simp only [List.map_cons, List.cons.injEq] at q
    rw [h x y q.1, map_inj h q.2]
theorem Inv1.lst {α : Type} {e : α → D} (h : Inv1 e) : Inv1 (eL e) := fun a b q => by
  have q : D.lst (a.map e) = D.lst (b.map e) := q
  injection q with q
  exact map_inj h q
theorem Inv1.obj : Inv1 D.obj := fun a b q => by injection q
namespace Pg
variable {α β : Type}
/-- a list in the store, read -/
noncomputable def rdL (e : α → D) (a : Addr) (k : List α → Pg β) : Pg β := .get a fun o => match o with
  | .lst l => match invE (eL e) (.lst l) with
    | some xs => k xs
    | none => .stop
  | .ins _ _ => .stop
  | .err _ _ => .stop
def newL (e : α → D) (xs : List α) : Pg Addr := .new (.lst (xs.map e)) .ret
def appS' (e : α → D) (a : Addr) (xs : List α) (m : Pg β) : Pg β := Pg.req (xs.length < 1000) (.set a (.lst (xs.map e)) m)
noncomputable def appL (e : α → D) (a : Addr) (x : α) (m : Pg β) : Pg β := rdL e a fun xs => Pg.req (xs.length < 1000) (.set a (.lst ((xs ++ [x]).map e)) m)
def chkL (a : Addr) (m : Pg β) : Pg β := .get a fun o => match o with
  | .lst _ => m
  | .ins _ _ => .stop
  | .err _ _ => .stop
noncomputable def popS (e : α → D) (a : Addr) : Pg α := rdL e a fun xs => match xs[xs.length - 1]? with
  | some y => .set a (.lst (xs.dropLast.map e)) (.ret y)
  | none => .stop
/-- a field -/
noncomputable def fld (x f : Str) (e : α → D) (a : Addr) : Pg α := .get a fun o => match o with
  | .ins x' fs => if x' = x then (match fs.lookup f with
    | some d => match invE e d with
      | some v => .ret v
      | none => .stop
    | none => .stop) else .stop
  | .lst _ => .stop
  | .err _ _ => .stop
def setF (x f : Str) (a : Addr) (d : D) (m : Pg β) : Pg β := .get a fun o => match o with
  | .ins x' fs => if x' = x then Pg.req (fs.length < 1000) (.set a (.ins x (putD f d fs)) m) else .stop
  | .lst _ => .stop
  | .err _ _ => .stop
def isI (x m : Str) (a : Addr) (p : Pg β) : Pg β := .get a fun o => match o with
  | .ins x' fs => if x' = x ∧ fs.lookup m = none then p else .stop
  | .lst _ => .stop
  | .err _ _ => .stop
def mk (x : Str) (p : Addr → Pg Unit) : Pg Addr := .new (.ins x []) fun a => (p a).bind fun _ => .ret a
end Pg
/-- no value -/
def eU (_ : Unit) : D := .non
section
variable {α β γ δ : Type} {e : α → D} {e' : β → D} {a : Addr} {env : Env'} {t to te tv : DE} {x : Str} {f : Str} {u : DS} {J : DK → γ → Gn → Prop} {m : Pg γ}
theorem t_stoP {xs : List α} (h : MP (t env) (eL e xs)) : ME (stoT t env) (Pg.newL e xs) D.obj := fun n Q X q => h n _ X q
end
end DL

/-! typed computations with errors in the store -/
namespace DL
open PySem PySem.Spec L2
namespace Pg
def mkE (x : Str) (fs : List (Str × D)) : Pg Addr := .new (.err x fs) .ret
def isO (tb : List (Str × Bool)) (a : Addr) : Pg Bool := .get a fun o => match o with
  | .err x _ => match tb.lookup x with
    | some b => .ret b
    | none => .stop
  | _ => .stop
def fldO (x f : Str) (a : Addr) : Pg D := .get a fun o => match o with
  | .err x' fs => if x' = x then (match fs.lookup f with | some v => .ret v | none => .stop) else .stop
  | _ => .stop
end Pg
section
variable {x f f1 f2 : Str} {fs : List (Str × D)} {d d1 d2 : D} {a : Addr} {tb : List (Str × Bool)}
theorem t_errM : ME (errM x fs) (Pg.mkE x fs) D.obj := fun n Q X q => q
theorem t_err0 : ME (err0M x []) (Pg.mkE x []) D.obj := t_errM
theorem t_err1 : ME (err1M x f1 [d]) (Pg.mkE x [(f1, d)]) D.obj := t_errM
theorem t_err2 : ME (err2M x f1 f2 [d1, d2]) (Pg.mkE x [(f2, d2), (f1, d1)]) D.obj := t_errM
theorem t_isO : ME (isOD tb (.obj a)) (Pg.isO tb a) D.bl := fun n Q X q => by
  obtain ⟨o, q1, q2⟩ := q
  refine ⟨o, q1, ?_⟩
  cases o with
  | err x fs =>
    dsimp only at q2 ⊢
    cases h : tb.lookup x with
    | none => rw [h] at q2; exact q2.elim
    | some b => rw [h] at q2; exact q2
  | _ => exact q2.elim
theorem t_fldO : ME (fldOD x f (.obj a)) (Pg.fldO x f a) eV := fun n Q X q => by
  obtain ⟨o, q1, q2⟩ := q
  refine ⟨o, q1, ?_⟩
  cases o with
  | err x' fs =>
    dsimp only at q2 ⊢
    by_cases hx : x' = x
    · rw [if_pos hx] at q2
      refine ⟨hx, ?_⟩
      cases h : fs.lookup f with
      | none => rw [h] at q2; exact q2.elim
      | some v => rw [h] at q2; exact q2
    · rw [if_neg hx] at q2; exact q2.elim
  | _ => exact q2.elim
end
end DL

/-! typed computations with things of the program's own classes -/
namespace DL
open PySem PySem.Spec L2
namespace Pg
variable {α β : Type}
def calm (p : Pg α) : Pg α := Pg.try_ p fun _ => .stop
def isIn (x : Str) (a : Addr) (p : Pg β) : Pg β := .get a fun o => match o with
  | .ins x' _ => if x' = x then p else .stop
  | _ => .stop
def neI (x : Str) (p : Addr → Addr → Pg Bool) (a b : Addr) : Pg Bool := isIn x a (isIn x b ((calm (p a b)).bind fun r => .ret (!r)))
end Pg
section
variable {α β γ ρ : Type} {e' : β → D} {ec : γ → D} {a b : Addr} {env : Env'} {u tk : DA} {m md : MD} {p : Pg γ} {x : Str} {is : List Nat} {t : DS}
end
end DL

/-! typed repr of data that names lists of the store -/
namespace DL
open PySem PySem.Spec L2
mutual
def Pg.rsvP : D → Pg D
  | .obj a => .get a fun o => match o with
    | .lst l => .ret (.lst l)
    | _ => .stop
  | .tup l => (Pg.rsvPL l).bind fun l => .ret (.tup l)
  | .lst l => (Pg.rsvPL l).bind fun l => .ret (.lst l)
  | .dct _ _ => .stop
  | .non => .ret .non
  | .bl b => .ret (.bl b)
  | .int i => .ret (.int i)
  | .str z => .ret (.str z)
  | .deck => .stop
def Pg.rsvPL : List D → Pg (List D)
  | [] => .ret []
  | d :: l => (Pg.rsvP d).bind fun d => (Pg.rsvPL l).bind fun l => .ret (d :: l)
end
def Pg.reprS (d : D) : Pg Str := (Pg.rsvP d).bind fun d => Pg.req (shOk d = true) (.ret (shw d))
mutual
theorem rsvP_iff {n : Gn} {X : XD → Gn → Prop} : ∀ {d : D} {Q : D → Gn → Prop}, Pg.wp (Pg.rsvP d) n Q X ↔ ∃ d', rsv n.sto d = some d' ∧ Q d' n
  | .obj a, Q => by
    unfold Pg.rsvP rsv
    constructor
    · rintro ⟨o, h1, h2⟩
      cases o with
      | lst l => rw [h1]; exact ⟨_, rfl, h2⟩
      | ins _ _ => exact h2.elim
      | err _ _ => exact h2.elim
    · rintro ⟨d', h1, h2⟩
      split at h1
      · rename_i l h
        cases h1
        exact ⟨_, h, h2⟩
      · cases h1
  | .tup l, Q => by
    unfold Pg.rsvP rsv
    rw [Pg.wp_bind, rsvPL_iff]
    constructor
    · rintro ⟨l', h1, h2⟩; rw [h1]; exact ⟨_, rfl, h2⟩
    · rintro ⟨d', h1, h2⟩
      cases q : rsvL n.sto l with
      | none => rw [q] at h1; cases h1
      | some l' => rw [q] at h1; cases h1; exact ⟨l', rfl, h2⟩
  | .lst l, Q => by
    unfold Pg.rsvP rsv
    rw [Pg.wp_bind, rsvPL_iff]
    constructor
    · rintro ⟨l', h1, h2⟩; rw [h1]; exact ⟨_, rfl, h2⟩
    · rintro ⟨d', h1, h2⟩
      cases q : rsvL n.sto l with
      | none => rw [q] at h1; cases h1
      | some l' => rw [q] at h1; cases h1; exact ⟨l', rfl, h2⟩
  | .dct _ _, Q => ⟨fun h => h.elim, fun ⟨_, h, _⟩ => by unfold rsv at h; cases h⟩
  | .non, Q => ⟨fun h => ⟨_, rfl, h⟩, fun ⟨_, h, q⟩ => by unfold rsv at h; cases h; exact q⟩
  | .bl b, Q => ⟨fun h => ⟨_, rfl, h⟩, fun ⟨_, h, q⟩ => by unfold rsv at h; cases h; exact q⟩
  | .int i, Q => ⟨fun h => ⟨_, rfl, h⟩, fun ⟨_, h, q⟩ => by unfold rsv at h; cases h; exact q⟩
  | .str z, Q => ⟨fun h => ⟨_, rfl, h⟩, fun ⟨_, h, q⟩ => by unfold rsv at h; cases h; exact q⟩
  | .deck, Q => ⟨fun h => h.elim, fun ⟨_, h, _⟩ => by unfold rsv at h; cases h⟩
theorem rsvPL_iff {n : Gn} {X : XD → Gn → Prop} : ∀ {l : List D} {Q : List D → Gn → Prop}, Pg.wp (Pg.rsvPL l) n Q X ↔ ∃ l', rsvL n.sto l = some l' ∧ Q l' n
  | [], Q => ⟨fun h => ⟨_, rfl, h⟩, fun ⟨_, h, q⟩ => by unfold rsvL at h; cases h; exact q⟩
  | d :: l, Q => by
    unfold Pg.rsvPL
    rw [Pg.wp_bind, rsvP_iff]
    constructor
    · rintro ⟨d', h1, h2⟩
      obtain ⟨l', h3, h4⟩ := rsvPL_iff.mp (Pg.wp_bind.mp h2)
      exact ⟨d' :: l', by unfold rsvL; rw [h1, h3], h4⟩
    · rintro ⟨l', h1, h2⟩
      obtain ⟨d1, l1, k1, k2, rfl⟩ := rsvL_cons h1
      exact ⟨d1, k1, Pg.wp_bind.mpr (rsvPL_iff.mpr ⟨l1, k2, h2⟩)⟩
end
theorem t_reprS {d : D} : ME (reprSD d) (Pg.reprS d) D.str := fun n Q X q => by
  obtain ⟨d', h1, h2⟩ := rsvP_iff.mp (Pg.wp_bind.mp q)
  obtain ⟨h3, h4⟩ := Pg.wp_req.mp h2
  exact ⟨d', h1, h3, h4⟩
theorem reprS_wp {d d' : D} {n : Gn} {Q : Str → Gn → Prop} {X : XD → Gn → Prop} (h : rsv n.sto d = some d') (h2 : shOk d' = true) (q : Q (shw d') n) : Pg.wp (Pg.reprS d) n Q X := Pg.wp_bind.mpr (rsvP_iff.mpr ⟨d', h, Pg.wp_req.mpr ⟨h2, q⟩⟩)
end DL

/-! shown texts are short -/
namespace DL
open PySem PySem.Spec L2
theorem sz : sizeLine = 16777216 := rfl
theorem ok_app {a b : Str} (ha : PyData.strOk a = true) (hb : PyData.strOk b = true) : PyData.strOk (a ++ b) = true := strOk_append ha hb
theorem reprChar_lt {q c x : Nat} (hq : q < 128) (hc : c < 0x110000) (h : x ∈ Builtin.Str.reprChar q c) : x < 0x110000 := by
  have hex : ∀ w, ∀ y ∈ (List.replicate (w - ((Nat.toDigits 16 c).map Char.toNat).length) 48 ++ (Nat.toDigits 16 c).map Char.toNat), y < 0x110000 := by
    intro w y hy
    rcases List.mem_append.mp hy with hy | hy
    · have := (List.mem_replicate.mp hy).2; omega
    · obtain ⟨z, _, rfl⟩ := List.mem_map.mp hy
      exact char_lt z
  unfold Builtin.Str.reprChar at h
  dsimp only at h
  repeat' split at h
  all_goals first
    | (simp only [List.mem_cons, List.not_mem_nil, or_false] at h; omega)
    | (rcases List.mem_append.mp h with h | h
       · simp only [List.mem_cons, List.not_mem_nil, or_false] at h; omega
       · exact hex _ x h)
theorem reprQuote_lt (x : Str) : reprQuote x < 128 := by
  unfold reprQuote; split <;> decide
theorem ok_repr {x : Str} (h : PyData.strOk x = true) : PyData.strOk (reprText x) = true := by
  rw [strOk_iff] at *
  have hq := reprQuote_lt x
  have core : ∀ (l : List Nat) (acc : Array Nat), (∀ c ∈ l, c < 0x110000) → (∀ c ∈ acc.toList, c < 0x110000) → ∀ c ∈ (l.foldl (fun out c => out ++ (Builtin.Str.reprChar (reprQuote x) c).toArray) acc).toList, c < 0x110000 := by
    intro l
    induction l with
    | nil => exact fun acc _ h => h
    | cons a l ih =>
      intro acc h1 h2
      rw [List.foldl_cons]
      refine ih _ (fun c hc => h1 c (List.mem_cons_of_mem _ hc)) fun c hc => ?_
      rw [Array.toList_append] at hc
      rcases List.mem_append.mp hc with hc | hc
      · exact h2 c hc
      · exact reprChar_lt hq (h1 a List.mem_cons_self) hc
  intro c hc
  unfold reprText at hc
  rw [show (Str.mk ((x.cps.foldl (fun out c => out ++ (Builtin.Str.reprChar (reprQuote x) c).toArray) #[reprQuote x]).push (reprQuote x))).cps.toList = (x.cps.foldl (fun out c => out ++ (Builtin.Str.reprChar (reprQuote x) c).toArray) #[reprQuote x]).toList ++ [reprQuote x] from Array.toList_push] at hc
  rcases List.mem_append.mp hc with hc | hc
  · rw [← Array.foldl_toList] at hc
    exact core _ _ h (fun c hc => by
      simp only [List.mem_cons, List.not_mem_nil, or_false] at hc
      omega) c hc
  · simp only [List.mem_cons, List.not_mem_nil, or_false] at hc
    omega
theorem len_repr {x : Str} (h : PyData.strOk x = true) : (reprText x).length ≤ 10 * x.length + 2 := StrLaws.reprText_len x fun c hc => Nat.lt_of_lt_of_le (strOk_iff.mp h c hc) (by decide)
theorem len_app (a b : Str) : (a ++ b).length = a.length + b.length := by
  show (a.cps ++ b.cps).size = _
  rw [Array.size_append]; rfl
theorem textFrom_ok : ∀ (ts : List Str) (k : Nat) (acc : Str), PyData.strOk acc = true → (∀ t ∈ ts, PyData.strOk t = true) → PyData.strOk (textFrom k acc ts) = true
  | [], k, acc, h, _ => h
  | t :: ts, k, acc, h, ht => textFrom_ok ts (k + 1) _ (ok_app (ok_app h (ok_of _)) (ht t List.mem_cons_self)) fun x hx => ht x (List.mem_cons_of_mem _ hx)
theorem textFrom_le : ∀ (ts : List Str) (k : Nat) (acc : Str), (textFrom k acc ts).length ≤ acc.length + piled ts
  | [], k, acc => Nat.le_add_right _ _
  | t :: ts, k, acc => by
    have ih := textFrom_le ts (k + 1) (acc ++ (if k > 0 then ", " else "" : String) ++ t)
    rw [len_app, len_app] at ih
    rw [piled_cons]
    have : (Str.ofString (if k > 0 then ", " else "" : String)).length ≤ 2 := by
      split
      · decide +kernel
      · decide +kernel
    show (textFrom (k + 1) (acc ++ (if k > 0 then ", " else "" : String) ++ t) ts).length ≤ _
    omega
theorem join_ok : ∀ ts : List Str, (∀ t ∈ ts, PyData.strOk t = true) → PyData.strOk (Str.join ", " ts) = true
  | [], _ => ok_of ""
  | [x], h => h x List.mem_cons_self
  | x :: y :: r, h => by
    show PyData.strOk (x ++ ", " ++ Str.join ", " (y :: r)) = true
    exact ok_app (ok_app (h x List.mem_cons_self) (ok_of _)) (join_ok (y :: r) fun z hz => h z (List.mem_cons_of_mem _ hz))
theorem join_le (ts : List Str) : (Str.join ", " ts).length ≤ piled ts := by
  cases ts with
  | nil => exact Nat.le_refl 0
  | cons a l =>
    have := join_length_add (a :: l) (by simp)
    omega
/-! how much is shown at most -/
mutual
def rl : D → Nat
  | .str s => 10 * s.length + 2
  | .tup l | .lst l => rlL l + 3
  | .int _ => 1922
  | _ => 5
def rlL : List D → Nat
  | [] => 0
  | d :: l => rl d + 2 + rlL l
end
/-! may be shown -/
mutual
def okS : D → Bool
  | .non | .bl _ => true
  | .int i => decide (i.natAbs.log2 < 1920)
  | .str s => PyData.strOk s
  | .tup l | .lst l => okSL l
  | .dct _ _ | .deck | .obj _ => false
def okSL : List D → Bool
  | [] => true
  | d :: l => okS d && okSL l
end
mutual
theorem shw_ok : ∀ d : D, okS d = true → okD d = true ∧ (py d).showable = true ∧ PyData.strOk (shw d) = true ∧ (shw d).length ≤ rl d
  | .non, _ => ⟨rfl, rfl, ok_of "None", by
    show (Str.ofString "None").length ≤ 5
    decide +kernel⟩
  | .bl b, _ => ⟨rfl, rfl, by cases b; exact ok_of "False"; exact ok_of "True", by
    cases b
    · show (Str.ofString "False").length ≤ 5
      decide +kernel
    · show (Str.ofString "True").length ≤ 5
      decide +kernel⟩
  | .int i, h => by
    have h : i.natAbs.log2 < 1920 := of_decide_eq_true h
    refine ⟨rfl, decide_eq_true h, ok_of _, ?_⟩
    show (Str.ofString (toString i)).length ≤ 1922
    have := PyProof.Rows.int_text_len_1921 h
    omega
  | .str s, h => ⟨rfl, rfl, ok_repr h, len_repr h⟩
  | .tup l, h => by
    obtain ⟨h1, h2, h3, h4⟩ := shw_okL l h
    refine ⟨h1, h2, ?_, ?_⟩
    · show PyData.strOk (tupleText (PyData.shownAll (pyL l))) = true
      unfold tupleText
      refine ok_app (ok_app (ok_of _) (join_ok _ h3)) (by split <;> exact ok_of _)
    · show (tupleText (PyData.shownAll (pyL l))).length ≤ rlL l + 3
      unfold tupleText
      rw [len_app, len_app]
      have a : (Str.ofString "(").length = 1 := by decide +kernel
      have b := join_le (PyData.shownAll (pyL l))
      have c : (Str.ofString (if (PyData.shownAll (pyL l)).length == 1 then ",)" else ")" : String)).length ≤ 2 := by
        split
        · decide +kernel
        · decide +kernel
      omega
  | .lst l, h => by
    obtain ⟨h1, h2, h3, h4⟩ := shw_okL l h
    refine ⟨h1, h2, ?_, ?_⟩
    · show PyData.strOk (listText (PyData.shownAll (pyL l))) = true
      unfold listText
      exact ok_app (textFrom_ok _ _ _ (ok_of _) h3) (ok_of _)
    · show (listText (PyData.shownAll (pyL l))).length ≤ rlL l + 3
      unfold listText
      rw [len_app]
      have a : (Str.ofString "[").length = 1 := by decide +kernel
      have b := textFrom_le (PyData.shownAll (pyL l)) 0 "["
      have c : (Str.ofString "]").length = 1 := by decide +kernel
      omega
  | .dct _ _, h => by cases h
  | .deck, h => by cases h
  | .obj _, h => by cases h
theorem shw_okL : ∀ l : List D, okSL l = true → okL l = true ∧ PyData.showableAll (pyL l) = true ∧ (∀ t ∈ PyData.shownAll (pyL l), PyData.strOk t = true) ∧ piled (PyData.shownAll (pyL l)) ≤ rlL l
  | [], _ => ⟨rfl, rfl, fun _ h => (by cases h), Nat.le_refl 0⟩
  | d :: l, h => by
    simp only [okSL, Bool.and_eq_true] at h
    obtain ⟨a1, a2, a3, a4⟩ := shw_ok d h.1
    obtain ⟨b1, b2, b3, b4⟩ := shw_okL l h.2
    refine ⟨by simp [okL, a1, b1], by simp [pyL, PyData.showableAll, a2, b2], fun t ht => ?_, ?_⟩
    · simp only [pyL, PyData.shownAll] at ht
      rcases List.mem_cons.mp ht with rfl | ht
      · exact a3
      · exact b3 t ht
    · simp only [pyL, PyData.shownAll, rlL]
      rw [piled_cons]
      have : (PyData.shown (py d)).length ≤ rl d := a4
      omega
end
theorem shOk_of {d : D} (h : okS d = true) (hd : (py d).depth ≤ 60) (hl : rl d ≤ sizeLine) : shOk d = true := by
  obtain ⟨h1, h2, h3, h4⟩ := shw_ok d h
  unfold shOk
  simp only [Bool.and_eq_true, decide_eq_true_eq]
  exact ⟨⟨⟨⟨h1, h2⟩, hd⟩, Nat.le_trans h4 hl⟩, h3⟩
/-- values of a kind are shown with at most so many signs -/
structure Wd {α : Type} (e : α → D) (P : α → Prop) (w : Nat) : Prop where
  ok : ∀ a, P a → okS (e a) = true
  le : ∀ a, P a → rl (e a) ≤ w
theorem Wd.str (n : Nat) : Wd D.str (fun s => PyData.strOk s = true ∧ s.length ≤ n) (10 * n + 2) := ⟨fun _ h => h.1, fun s h => by show 10 * s.length + 2 ≤ _; have := h.2; omega⟩
theorem Wd.bl : Wd D.bl (fun _ => True) 5 := ⟨fun _ _ => rfl, fun _ _ => Nat.le_refl _⟩
theorem Wd.int : Wd D.int (fun i => i.natAbs.log2 < 1920) 1922 := ⟨fun _ h => decide_eq_true h, fun _ _ => Nat.le_refl _⟩
section
variable {α β γ : Type} {e : α → D} {e1 : α → D} {e2 : β → D} {e3 : γ → D} {P : α → Prop} {P2 : β → Prop} {P3 : γ → Prop} {w w2 w3 : Nat}
theorem Wd.rows (h : Wd e P w) : ∀ l : List α, (∀ a ∈ l, P a) → okSL (l.map e) = true ∧ rlL (l.map e) ≤ l.length * (w + 2)
  | [], _ => ⟨rfl, Nat.zero_le _⟩
  | a :: l, ha => by
    obtain ⟨h1, h2⟩ := h.rows l fun x hx => ha x (List.mem_cons_of_mem _ hx)
    have h3 := h.le a (ha a List.mem_cons_self)
    refine ⟨by simp [okSL, h.ok a (ha a List.mem_cons_self), h1], ?_⟩
    simp only [List.map_cons, rlL, List.length_cons, Nat.succ_mul]
    omega
theorem Wd.tup (n : Nat) (h : Wd e P w) : Wd (eT e) (fun l => l.length ≤ n ∧ ∀ a ∈ l, P a) (n * (w + 2) + 3) := ⟨fun l hl => (h.rows l hl.2).1, fun l hl => by
  have := (h.rows l hl.2).2
  have h2 : l.length * (w + 2) ≤ n * (w + 2) := Nat.mul_le_mul_right _ hl.1
  show rlL (l.map e) + 3 ≤ _
  omega⟩
theorem Wd.lst (n : Nat) (h : Wd e P w) : Wd (eL e) (fun l => l.length ≤ n ∧ ∀ a ∈ l, P a) (n * (w + 2) + 3) := ⟨fun l hl => (h.rows l hl.2).1, fun l hl => by
  have := (h.rows l hl.2).2
  have h2 : l.length * (w + 2) ≤ n * (w + 2) := Nat.mul_le_mul_right _ hl.1
  show rlL (l.map e) + 3 ≤ _
  omega⟩
theorem Wd.pair (h1 : Wd e1 P w) (h2 : Wd e2 P2 w2) : Wd (eP e1 e2) (fun p => P p.1 ∧ P2 p.2) (w + w2 + 7) := ⟨fun p hp => by simp [okS, okSL, h1.ok _ hp.1, h2.ok _ hp.2], fun p hp => by
  have a := h1.le _ hp.1
  have b := h2.le _ hp.2
  simp only [rl, rlL]; omega⟩
theorem Wd.opt (h : Wd e P w) : Wd (eO e) (fun o => ∀ a, o = some a → P a) (max w 5) := ⟨fun o ho => by
  cases o
  · rfl
  · exact h.ok _ (ho _ rfl), fun o ho => by
  cases o
  · show 5 ≤ _; omega
  · have := h.le _ (ho _ rfl)
    show rl (e _) ≤ _; omega⟩
theorem Wd.sh {k : Nat} (h : Wd e P w) (q : EqE e k) (hk : k ≤ 60) (hw : w ≤ 16777216) {a : α} (ha : P a) : shOk (e a) = true := shOk_of (h.ok a ha) (Nat.le_trans (q.dep a) hk) (Nat.le_trans (h.le a ha) (by rw [sz]; exact hw))
theorem Wd.mono {P' : α → Prop} (h : Wd e P w) (hp : ∀ a, P' a → P a) : Wd e P' w := ⟨fun a ha => h.ok a (hp a ha), fun a ha => h.le a (hp a ha)⟩
end
end DL

/-! typed computations run -/
namespace DL
open PySem PySem.Spec L2
section
variable {α β γ σ ρ : Type} {p : Pg α} {f : α → Pg β} {b b1 b2 : Nat} {P Q : α → Prop} {R : β → Prop}
/-- the store only grows -/
def Gr (n n' : Gn) : Prop := ∀ a o, slook n.sto a = some o → slook n'.sto a = some o
theorem Gr.rfl {n : Gn} : Gr n n := fun _ _ h => h
theorem Gr.trans {n n1 n2 : Gn} (h : Gr n n1) (k : Gr n1 n2) : Gr n n2 := fun a o q => k a o (h a o q)
theorem Gr.of {n n' : Gn} (h : n'.sto = n.sto) : Gr n n' := fun a o q => by rw [h]; exact q
theorem Gr.add {n : Gn} {a : Addr} {o : OS} (h : ¬ Mu n a) : Gr n (n.add a o) := fun b u q => by
  have : b ≠ a := fun e => h (e ▸ (fun z => by rw [q] at z; cases z))
  rw [Gn.add_ne this]
  exact q
/-- at most b draws, a value as Q says -/
structure Rn (p : Pg α) (b : Nat) (Q : α → Prop) : Prop where
  run : ∀ (n : Gn) (Q' : α → Gn → Prop) (X : XD → Gn → Prop), b ≤ n.k → (∀ a (n' : Gn), n'.k ≤ n.k → n.k ≤ n'.k + b → Gr n n' → Q a → Q' a n') → Pg.wp p n Q' X
theorem Rn.ret {a : α} (h : Q a) : Rn (.ret a) b Q := ⟨fun n Q' X hb hq => hq a n (Nat.le_refl _) (Nat.le_add_right _ _) Gr.rfl h⟩
theorem Rn.mono (h : Rn p b1 P) (hb : b1 ≤ b) (hq : ∀ a, P a → Q a) : Rn p b Q := ⟨fun n Q' X hn q => h.run n Q' X (by omega) fun a n' h1 h2 h4 h3 => q a n' h1 (by omega) h4 (hq a h3)⟩
theorem Rn.imp (h : Rn p b P) (hq : ∀ a, P a → Q a) : Rn p b Q := h.mono (Nat.le_refl _) hq
/-- one behind the other -/
theorem Rn.seq (b1 : Nat) (h : Rn p b1 P) (hb : b1 ≤ b) (hf : ∀ a, P a → Rn (f a) (b - b1) R) : Rn (p.bind f) b R := ⟨fun n Q' X hn q => Pg.wp_bind.mpr (h.run n _ X (by omega) fun a n1 h1 h2 h4 h3 => (hf a h3).run n1 Q' X (by omega) fun c n2 k1 k2 k4 k3 => q c n2 (by omega) (by omega) (h4.trans k4) k3)⟩
theorem Rn.pure {a : α} (h : p = .ret a) (hf : Rn (f a) b R) : Rn (p.bind f) b R := by rw [h]; exact hf
theorem Rn.req {c : Prop} [Decidable c] (hc : c) (h : Rn p b Q) : Rn (Pg.req c p) b Q := by rw [Pg.req_t hc]; exact h
theorem Rn.draws {m : Int} (h0 : 0 < m) (h1 : m < 1073741824) : Rn (Pg.draws m) 1 fun r => 0 ≤ r ∧ r < m := ⟨fun n Q' X hn q => ⟨by omega, h0, h1, fun r k1 k2 => q r ⟨n.k - 1, n.sto⟩ (by show n.k - 1 ≤ n.k; omega) (by show n.k ≤ n.k - 1 + 1; omega) Gr.rfl ⟨k1, k2⟩⟩⟩
theorem Rn.nox (h : Rn p b Q) : Rn (Pg.nox p) b Q := ⟨fun n Q' X hn q => Pg.wp_nox.mpr (h.run n Q' _ hn q)⟩
theorem Rn.ifNo {o : Option γ} {p : Pg α} {q : γ → Pg α} (h1 : o = none → Rn p b Q) (h2 : ∀ x, o = some x → Rn (q x) b Q) : Rn (DL.ifNo o p q) b Q := by
  cases o with
  | none => exact h1 rfl
  | some x => exact h2 x rfl
theorem Rn.at_ {l : List α} {i : Int} (h0 : 0 ≤ i) (h1 : i < l.length) : Rn (Pg.at_ l i) 0 fun a => a ∈ l := by
  obtain ⟨m, rfl⟩ := Int.eq_ofNat_of_zero_le h0
  have hl : m < l.length := by omega
  unfold Pg.at_
  rw [atI_nat (List.getElem?_eq_getElem hl)]
  exact Rn.ret (List.getElem_mem hl)
theorem at_nat {l : List α} {k : Nat} {a : α} (h : l[k]? = some a) : Pg.at_ l (k : Int) = .ret a := by
  unfold Pg.at_
  rw [atI_nat h]
theorem at_0 {a : α} {l : List α} : Pg.at_ (a :: l) 0 = .ret a := at_nat (k := 0) rfl
theorem at_1 {a b : α} {l : List α} : Pg.at_ (a :: b :: l) 1 = .ret b := at_nat (k := 1) rfl
theorem at_2 {a b c : α} {l : List α} : Pg.at_ (a :: b :: c :: l) 2 = .ret c := at_nat (k := 2) rfl
theorem at_3 {a b c d : α} {l : List α} : Pg.at_ (a :: b :: c :: d :: l) 3 = .ret d := at_nat (k := 3) rfl
theorem Rn.one {l : List α} (h : l ≠ []) (h2 : l.length < 1073741824) : Rn (t_one l) 1 fun a => a ∈ l := by
  have hp := List.length_pos_iff.mpr h
  exact Rn.seq 1 (Rn.draws (by omega) (by omega)) (Nat.le_refl _) fun i hi => Rn.at_ hi.1 hi.2
theorem Rn.mapM {f : α → Pg β} {xs : List α} (S : α → β → Prop) (c : Nat) (h : ∀ x ∈ xs, Rn (f x) c (S x)) : Rn (Pg.mapM f xs) (xs.length * c) (All2 S xs) := by
  induction xs with
  | nil => exact Rn.ret .nil
  | cons x xs ih =>
    have e : (x :: xs).length * c = c + xs.length * c := by rw [List.length_cons, Nat.succ_mul, Nat.add_comm]
    refine Rn.seq c (h x List.mem_cons_self) (by omega) fun y hy => ?_
    refine Rn.seq (xs.length * c) (ih fun z hz => h z (List.mem_cons_of_mem _ hz)) (by omega) fun ys hys => Rn.ret (.cons hy hys)
theorem Rn.lcM {f : α → Pg β} {xs : List α} (S : α → β → Prop) (c : Nat) (hl : xs.length ≤ 1000) (h : ∀ x ∈ xs, Rn (f x) c (S x)) : Rn (Pg.lcM f xs) (xs.length * c) (All2 S xs) := Rn.req (le_sz hl) (Rn.nox (Rn.mapM S c h))
/-- tests that may draw -/
theorem Rn.lcB {test : α → Pg Bool} {elt : α → Pg β} {xs : List α} (S : α → β → Prop) (c : Nat) (hl : xs.length ≤ 1000) (h : ∀ x ∈ xs, Rn ((test x).bind fun c => if c = true then (elt x).bind fun y => .ret (some y) else .ret none) c fun o => ∀ y, o = some y → S x y) :
    Rn (Pg.lcB test elt xs) (xs.length * c) (fun ys => ∃ zs, List.Sublist zs xs ∧ All2 S zs ys) := by
  refine Rn.req (le_sz hl) (Rn.nox ?_)
  clear hl
  induction xs with
  | nil => exact Rn.ret ⟨[], .slnil, .nil⟩
  | cons x xs ih =>
    have e : (x :: xs).length * c = c + xs.length * c := by rw [List.length_cons, Nat.succ_mul, Nat.add_comm]
    refine Rn.seq c (h x List.mem_cons_self) (by omega) fun o ho => ?_
    refine Rn.seq (xs.length * c) (ih fun z hz => h z (List.mem_cons_of_mem _ hz)) (by omega) fun ys hys => ?_
    obtain ⟨zs, h1, h2⟩ := hys
    cases o with
    | none => exact Rn.ret ⟨zs, .cons _ h1, h2⟩
    | some y => exact Rn.ret ⟨x :: zs, .cons_cons _ h1, .cons (ho y rfl) h2⟩
theorem Rn.foldP {body : α → σ → Pg σ} {xs : List α} {s0 : σ} (I : List α → σ → Prop) (c : Nat) (h0 : I [] s0) (h : ∀ done x todo s, xs = done ++ x :: todo → I done s → Rn (body x s) c (I (done ++ [x]))) : Rn (Pg.foldP body xs s0) (xs.length * c) (I xs) := by
  have core : ∀ (todo done : List α) (s : σ), xs = done ++ todo → I done s → Rn (Pg.foldP body todo s) (todo.length * c) (I xs) := by
    intro todo
    induction todo with
    | nil => intro done s e hi; rw [List.append_nil] at e; subst e; exact Rn.ret hi
    | cons x todo ih =>
      intro done s e hi
      have q : (x :: todo).length * c = c + todo.length * c := by rw [List.length_cons, Nat.succ_mul, Nat.add_comm]
      refine Rn.seq c (h done x todo s e hi) (by omega) fun s' hs => ?_
      refine (ih (done ++ [x]) s' (by rw [e]; simp) hs).mono (by omega) fun _ z => z
  exact core xs [] s0 rfl h0
theorem Rn.forP {body : α → σ → Pg (Ct σ ρ)} {xs : List α} {s0 : σ} (I : List α → σ → Prop) (E : ρ → Prop) (c : Nat) (h0 : I [] s0) (h : ∀ done x todo s, xs = done ++ x :: todo → I done s → Rn (body x s) c fun r => match r with | .nx s' => I (done ++ [x]) s' | .ex e => E e) :
    Rn (Pg.forP body xs s0) (xs.length * c) fun r => match r with | .nx s' => I xs s' | .ex e => E e := by
  have core : ∀ (todo done : List α) (s : σ), xs = done ++ todo → I done s → Rn (Pg.forP body todo s) (todo.length * c) fun r => match r with | .nx s' => I xs s' | .ex e => E e := by
    intro todo
    induction todo with
    | nil => intro done s e hi; rw [List.append_nil] at e; subst e; exact Rn.ret hi
    | cons x todo ih =>
      intro done s e hi
      have q : (x :: todo).length * c = c + todo.length * c := by rw [List.length_cons, Nat.succ_mul, Nat.add_comm]
      refine Rn.seq c (h done x todo s e hi) (by omega) fun r hr => ?_
      cases r with
      | nx s' => exact (ih (done ++ [x]) s' (by rw [e]; simp) hr).mono (by omega) fun _ z => z
      | ex e => exact Rn.ret hr
  exact core xs [] s0 rfl h0
/-- while: a measure, the test without draws -/
theorem Rn.whF {cond : σ → Pg Bool} {body : σ → Pg σ} {s0 : σ} {f : Nat} (I : σ → Prop) (μ : σ → Nat) (t : σ → Bool) (c B : Nat) (h0 : I s0) (hf : μ s0 < f) (hB : μ s0 ≤ B) (hc : ∀ s, I s → cond s = .ret (t s)) (h : ∀ s, I s → t s = true → 0 < μ s ∧ Rn (body s) c fun s' => I s' ∧ μ s' < μ s) :
    Rn (Pg.whF cond body f s0) (B * c) fun s => I s ∧ t s = false := by
  have core : ∀ (f : Nat) (s : σ), I s → μ s < f → Rn (Pg.whF cond body f s) (μ s * c) fun s => I s ∧ t s = false := by
    intro f
    induction f with
    | zero => intro s _ h; omega
    | succ f ih =>
      intro s hi hm
      unfold Pg.whF
      refine Rn.pure (hc s hi) ?_
      cases e : t s with
      | true =>
        obtain ⟨k1, k2⟩ := h s hi e
        have q : c ≤ μ s * c := by
          have := Nat.mul_le_mul_right c k1
          omega
        refine Rn.seq c k2 q fun s' hs => ?_
        have q2 : μ s' * c + c ≤ μ s * c := by rw [← Nat.succ_mul]; exact Nat.mul_le_mul_right c hs.2
        exact (ih s' hs.1 (by omega)).mono (by omega) fun _ z => z
      | false => exact Rn.ret ⟨hi, e⟩
  exact (core f s0 h0 hf).mono (Nat.mul_le_mul_right _ hB) fun _ z => z
theorem Rn.elim {p : Pg (Ct σ ρ)} {g : σ → Pg β} {k : ρ → Pg β} {E : ρ → Prop} {P : σ → Prop} (b1 : Nat) (h : Rn p b1 fun r => match r with | .nx s' => P s' | .ex e => E e) (hb : b1 ≤ b) (hg : ∀ s, P s → Rn (g s) (b - b1) R) (hk : ∀ e, E e → Rn (k e) (b - b1) R) : Rn (p.bind (Ct.elim g k)) b R :=
  Rn.seq b1 h hb fun r hr => by
    cases r with
    | nx s => exact hg s hr
    | ex e => exact hk e hr
/-- a law's end -/
theorem law_rn {p : Pg Bool} (b : Nat) (hb : b ≤ most) (h : Rn p b (· = true)) : Pg.wp p ⟨most, []⟩ (fun b _ => b = true) fun _ _ => False := h.run ⟨most, []⟩ _ _ hb fun _ _ _ _ _ h => h
theorem lcA_t {g : α → β} {xs : List α} (h : xs.length ≤ 1000) : Pg.lcA g xs = .ret (xs.map g) := Pg.req_t (le_sz h)
theorem rng1_t {j : Int} (h : -1000 ≤ j ∧ j ≤ 1000000) : Pg.rng1 j = .ret (rng 0 j) := Pg.req_t (by omega)
theorem rng_len (i j : Int) : (rng i j).length = (j - i).toNat := by simp [rng]
theorem mem_rng {i j k : Int} : k ∈ rng i j ↔ i ≤ k ∧ k < j := by
  unfold rng
  simp only [List.mem_map, List.mem_range]
  constructor
  · rintro ⟨n, h1, h2⟩; omega
  · intro h; exact ⟨(k - i).toNat, by omega, by omega⟩
end
end DL

/-! words -/
namespace DL
open PySem PySem.Spec L2
def cpsS (s : Str) : List Nat := s.cps.toList
def mkS (l : List Nat) : Str := ⟨l.toArray⟩
theorem cps_mk (l : List Nat) : cpsS (mkS l) = l := rfl
theorem mk_cps (s : Str) : mkS (cpsS s) = s := rfl
theorem len_mk (l : List Nat) : (mkS l).length = l.length := by simp [mkS, Str.length]
theorem len_cps (s : Str) : (cpsS s).length = s.length := by simp [cpsS, Str.length]
theorem cps_app (a b : Str) : cpsS (a ++ b) = cpsS a ++ cpsS b := by
  show (a.cps ++ b.cps).toList = _
  rw [Array.toList_append]; rfl
theorem cps_inj {a b : Str} (h : cpsS a = cpsS b) : a = b := by rw [← mk_cps a, ← mk_cps b, h]
/-- one to eight letters -/
def IsWord (s : Str) : Prop := 1 ≤ s.length ∧ s.length ≤ 8 ∧ ∀ c ∈ cpsS s, 97 ≤ c ∧ c ≤ 122
theorem IsWord.ok {s : Str} (h : IsWord s) : PyData.strOk s = true := strOk_iff.mpr fun c hc => by
  have := h.2.2 c hc; omega
/-- letters of words -/
def abc : List Nat := [97, 98, 99, 109, 121, 122]
/-- a drawn word -/
def DW (l : List Nat) : Prop := 1 ≤ l.length ∧ l.length ≤ 8 ∧ ∀ c ∈ l, c ∈ abc
theorem nodup_le {α : Type} [DecidableEq α] : ∀ (l m : List α), l.Nodup → (∀ x ∈ l, x ∈ m) → l.length ≤ m.length
  | [], _, _, _ => Nat.zero_le _
  | x :: l, m, hn, h => by
    obtain ⟨h1, h2⟩ := List.nodup_cons.mp hn
    have hx := h x List.mem_cons_self
    have := nodup_le l (m.erase x) h2 fun y hy => (List.mem_erase_of_ne fun e => h1 (by rw [← e]; exact hy)).mpr (h y (List.mem_cons_of_mem _ hy))
    rw [List.length_erase_of_mem hx] at this
    have hp : 0 < m.length := List.length_pos_of_mem hx
    rw [List.length_cons]
    omega
/-- the next word to be tried -/
def nxW (w : List Nat) : List Nat := if w.length = 8 then w.drop 1 ++ [113] else w ++ [113]
def sqW (w : List Nat) : Nat → List Nat
  | 0 => w
  | i + 1 => nxW (sqW w i)
end DL
namespace DL
open PySem PySem.Spec L2
section
variable {α β γ σ : Type}
end
/-! ascending texts -/
theorem mem_srtS {x : Str} {l : List Str} : x ∈ St.srtS l ↔ x ∈ l := by
  unfold St.srtS
  rw [(List.mergeSort_perm _ _).mem_iff, St.mem_dedup]
theorem nodup_srtS (l : List Str) : (St.srtS l).Nodup := (List.mergeSort_perm _ _).nodup_iff.mpr (St.nodup_dedup l)
/-! terms -/
def capS : List Nat := [65, 66, 67, 68, 69, 70, 71, 72, 73, 74, 75, 76, 77, 78, 79, 80, 81, 82, 83, 84, 85, 86, 87, 88, 89, 90]
/-- a letter from A to Z -/
def isVarS (t : Str) : Bool := decide (t.length = 1) && decide (t.cps.getD 0 0 ∈ capS)
theorem isVarS_iff {t : Str} : isVarS t = true ↔ ∃ c, 65 ≤ c ∧ c ≤ 90 ∧ t = mkS [c] := by
  have hm : ∀ c, c ∈ capS ↔ 65 ≤ c ∧ c ≤ 90 := fun c => by
    unfold capS
    simp only [List.mem_cons, List.not_mem_nil, or_false]
    omega
  unfold isVarS
  simp only [Bool.and_eq_true, decide_eq_true_eq, hm]
  constructor
  · rintro ⟨h1, h2⟩
    have e : cpsS t = [t.cps.getD 0 0] := by
      have hl := len_cps t
      rw [h1] at hl
      match q : cpsS t, hl with
      | [c], _ =>
        have : t.cps.getD 0 0 = c := by
          have e2 : t.cps = #[c] := by
            apply Array.ext'
            exact q
          rw [e2]; rfl
        rw [this]
    exact ⟨_, h2.1, h2.2, by rw [← e, mk_cps]⟩
  · rintro ⟨c, h1, h2, rfl⟩
    exact ⟨rfl, h1, h2⟩
def varsOf (as : List (List Str)) : List Str := St.srtS (as.flatMap fun a => (a.drop 1).filter isVarS)
theorem mem_varsOf {as : List (List Str)} {v : Str} : v ∈ varsOf as ↔ isVarS v = true ∧ ∃ a ∈ as, v ∈ a.drop 1 := by
  unfold varsOf
  rw [mem_srtS, List.mem_flatMap]
  constructor
  · rintro ⟨a, h1, h2⟩
    obtain ⟨h3, h4⟩ := List.mem_filter.mp h2
    exact ⟨h4, a, h1, h3⟩
  · rintro ⟨h1, a, h2, h3⟩
    exact ⟨a, h2, List.mem_filter.mpr ⟨h3, h1⟩⟩
/-- an atom drawn: a name of the kinds, terms -/
def DAtom (kinds : List (Str × Int)) (terms : List Str) (a : List Str) : Prop := ∃ kd ∈ kinds, ∃ ts : List Str, a = kd.1 :: ts ∧ (ts.length : Int) = kd.2 ∧ ∀ t ∈ ts, t ∈ terms
/-- rows of texts of few signs -/
def Rows (n m k : Nat) (as : List (List Str)) : Prop := as.length ≤ n ∧ ∀ a ∈ as, a.length ≤ m ∧ ∀ t ∈ a, t.length ≤ k
/-- how many terms atoms have -/
def widthOf (as : List (List Str)) (r : Str) : Int := maxd ((as.filter fun a => decide (a.head? = some r)).map fun a => ((a.length : Int) - 1)) 0
abbrev Rule' := List (List Str) × List (List Str)
abbrev Key' := Str × List Int
abbrev Book' := List Rule' × List Key'
def kfB (b : Book') (key : Key') : Bool :=
  decide ((key.2.length : Int) = widthOf (b.1.flatMap (·.2)) key.1) || ((b.2.filter fun k => decide (k.1 = key.1)).any fun k => k.2.all fun x => decide (x ∈ key.2))
end DL

/-! stores: values, unknowns, facts, canonical lists -/
namespace DL
open PySem PySem.Spec L2
/-- an unknown: it begins with '?' -/
def isUnk (t : Str) : Bool := decide ((cpsS t).head? = some 63)
/-- sorted texts without double ones -/
def Can (l : List Str) : Prop := l.Nodup ∧ l.Pairwise fun a b => St.leS a b = true
theorem can_srtS (l : List Str) : Can (St.srtS l) := ⟨nodup_srtS l, List.pairwise_mergeSort St.leS_trans St.leS_total _⟩
theorem Can.eq {l m : List Str} (h : Can l) (k : Can m) (e : ∀ x, x ∈ l ↔ x ∈ m) : l = m :=
  List.Perm.eq_of_pairwise (le := fun a b => St.leS a b = true) (fun a b _ _ h1 h2 => St.leS_anti h1 h2) h.2 k.2 ((List.perm_ext_iff_of_nodup h.1 k.1).mpr e)
/-- sorted rows without double ones -/
def CanR (l : List (List Str)) : Prop := l.Nodup ∧ l.Pairwise fun a b => Rs.leR a b = true
theorem mem_srtR {x : List Str} {l : List (List Str)} : x ∈ Rs.srtR l ↔ x ∈ l := by
  unfold Rs.srtR
  rw [(List.mergeSort_perm _ _).mem_iff, Rs.mem_dedupR]
theorem can_srtR (l : List (List Str)) : CanR (Rs.srtR l) := ⟨(List.mergeSort_perm _ _).nodup_iff.mpr (Rs.nodup_dedupR l), List.pairwise_mergeSort Rs.leR_trans Rs.leR_total _⟩
theorem CanR.eq {l m : List (List Str)} (h : CanR l) (k : CanR m) (e : ∀ x, x ∈ l ↔ x ∈ m) : l = m :=
  List.Perm.eq_of_pairwise (le := fun a b => Rs.leR a b = true) (fun a b _ _ h1 h2 => Rs.leR_anti h1 h2) h.2 k.2 ((List.perm_ext_iff_of_nodup h.1 k.1).mpr e)
theorem srtR_can {l : List (List Str)} (h : CanR l) : Rs.srtR l = l := (can_srtR l).eq h fun x => mem_srtR
theorem dedupR_len : ∀ l : List (List Str), (Rs.dedupR l).length ≤ l.length
  | [] => Nat.le_refl _
  | x :: l => by
    have := dedupR_len l
    unfold Rs.dedupR
    split <;> simp <;> omega
theorem len_srtR (l : List (List Str)) : (Rs.srtR l).length ≤ l.length := by
  unfold Rs.srtR
  rw [(List.mergeSort_perm _ _).length_eq]; exact dedupR_len l
/-- values: texts of 1 to 8 signs -/
def Vl (t : Str) : Prop := PyData.strOk t = true ∧ 1 ≤ t.length ∧ t.length ≤ 8
theorem IsWord.vl {w : Str} (h : IsWord w) : Vl w := ⟨h.ok, h.1, h.2.1⟩
theorem IsWord.unk {w : Str} (h : IsWord w) : isUnk w = false := by
  unfold isUnk
  rw [decide_eq_false]
  intro e
  cases q : cpsS w with
  | nil => rw [q] at e; cases e
  | cons c l =>
    rw [q] at e
    have := h.2.2 c (by rw [q]; simp)
    simp at e
    omega
/-- the unknowns of a fact, as they come -/
def uOf (f : List Str) : List Str := (f.drop 1).filter isUnk
/-- .. of facts, sorted -/
def unkOf (as : List (List Str)) : List Str := St.srtS (as.flatMap uOf)
theorem mem_unkOf {as : List (List Str)} {v : Str} : v ∈ unkOf as ↔ ∃ a ∈ as, v ∈ uOf a := by
  unfold unkOf
  rw [mem_srtS, List.mem_flatMap]
/-- rows that are facts of few short values -/
def Fs (n m : Nat) (as : List (List Str)) : Prop := as.length ≤ n ∧ ∀ a ∈ as, a ≠ [] ∧ a.length ≤ m ∧ ∀ t ∈ a, Vl t
/-- a fact drawn -/
def DFact (kinds : List (Str × Int)) (values : List Str) (a : List Str) : Prop := ∃ kd ∈ kinds, ∃ ts : List Str, a = kd.1 :: ts ∧ (ts.length : Int) = kd.2 ∧ ∀ t ∈ ts, t ∈ values
/-- the eight unknowns that may be drawn -/
def unks : List Str := [Str.ofString "?1", Str.ofString "?2", Str.ofString "?3", Str.ofString "?9", Str.ofString "?10", Str.ofString "?21", Str.ofString "?500", Str.ofString "?99999"]
theorem unks_vl {t : Str} (h : t ∈ unks) : Vl t ∧ isUnk t = true := by
  have : ∀ t ∈ unks, 1 ≤ t.length ∧ t.length ≤ 8 ∧ isUnk t = true := by decide +kernel
  obtain ⟨h1, h2, h3⟩ := this t h
  have ok : PyData.strOk t = true := by
    simp only [unks, List.mem_cons, List.not_mem_nil, or_false] at h
    rcases h with rfl | rfl | rfl | rfl | rfl | rfl | rfl | rfl <;> exact ok_of _
  exact ⟨⟨ok, h1, h2⟩, h3⟩
end DL

/-! data of several kinds shown; dicts -/
namespace DL
open PySem PySem.Spec L2
/-- may be shown: so deep, so long -/
structure Sh (d : D) (k w : Nat) : Prop where
  ok : okS d = true
  dep : (py d).depth ≤ k
  le : rl d ≤ w
section
variable {α : Type} {e : α → D} {P : α → Prop} {w k : Nat} {d : D}
theorem Wd.s (h : Wd e P w) (q : EqE e k) {a : α} (ha : P a) : Sh (e a) k w := ⟨h.ok a ha, q.dep a, h.le a ha⟩
theorem Sh.sh (h : Sh d k w) (hk : k ≤ 60) (hw : w ≤ 16777216) : shOk d = true := shOk_of h.ok (Nat.le_trans h.dep hk) (Nat.le_trans h.le (by rw [sz]; exact hw))
theorem Sh.mono {k' w' : Nat} (h : Sh d k w) (hk : k ≤ k') (hw : w ≤ w') : Sh d k' w' := ⟨h.ok, Nat.le_trans h.dep hk, Nat.le_trans h.le hw⟩
theorem depL : ∀ {l : List D}, (∀ d ∈ l, (py d).depth ≤ k) → PyData.depthAll (pyL l) ≤ k
  | [], _ => Nat.zero_le _
  | d :: l, h => by
    have h1 := h d List.mem_cons_self
    have h2 := depL (l := l) fun x hx => h x (List.mem_cons_of_mem _ hx)
    show max (py d).depth (PyData.depthAll (pyL l)) ≤ k
    omega
theorem shL {l : List D} (h : ∀ d ∈ l, Sh d k w) : okSL l = true ∧ rlL l ≤ l.length * (w + 2) := by
  have := Wd.rows (e := fun d : D => d) (P := fun d => Sh d k w) (w := w) ⟨fun d h => h.ok, fun d h => h.le⟩ l h
  rwa [List.map_id'] at this
theorem Sh.lst {l : List D} (n : Nat) (hn : l.length ≤ n) (h : ∀ d ∈ l, Sh d k w) : Sh (.lst l) (k + 1) (n * (w + 2) + 3) := by
  obtain ⟨h1, h2⟩ := shL h
  refine ⟨h1, ?_, ?_⟩
  · show PyData.depthAll _ + 1 ≤ _
    have := depL fun d hd => (h d hd).dep
    omega
  · show rlL l + 3 ≤ _
    have := Nat.mul_le_mul_right (w + 2) hn
    omega
theorem Sh.tup {l : List D} (n : Nat) (hn : l.length ≤ n) (h : ∀ d ∈ l, Sh d k w) : Sh (.tup l) (k + 1) (n * (w + 2) + 3) := by
  obtain ⟨h1, h2⟩ := shL h
  refine ⟨h1, ?_, ?_⟩
  · show PyData.depthAll _ + 1 ≤ _
    have := depL fun d hd => (h d hd).dep
    omega
  · show rlL l + 3 ≤ _
    have := Nat.mul_le_mul_right (w + 2) hn
    omega
end
/-! dicts -/
section
variable {α : Type} {l : List (Str × α)} {k x : Str} {v : α}
theorem look_mem : ∀ {l : List (Str × α)}, dlook l k = some v → (k, v) ∈ l
  | [], h => by cases h
  | p :: l, h => by
    unfold dlook at h
    split at h
    · rename_i e
      cases h
      rw [← e]
      exact List.mem_cons_self
    · exact List.mem_cons_of_mem _ (look_mem h)
theorem put_mem {p : Str × α} (h : p ∈ dput l k v) : p ∈ l ∨ p = (k, v) := by
  unfold dput at h
  split at h
  · obtain ⟨q, hq, rfl⟩ := List.mem_map.mp h
    split
    · rename_i e; right; rw [e]
    · exact .inl hq
  · rcases List.mem_append.mp h with h | h
    · exact .inl h
    · exact .inr (List.mem_singleton.mp h)
theorem get_mem {z : α} : dget l k z = z ∨ (k, dget l k z) ∈ l := by
  unfold dget
  cases h : dlook l k with
  | none => exact .inl rfl
  | some v => exact .inr (look_mem h)
end
/-- names put into a fact -/
def chF (names : List (Str × Str)) (f : List Str) : List Str := f.take 1 ++ (f.drop 1).map fun v => dget names v v
theorem chF_ne {names : List (Str × Str)} {f : List Str} (h : f ≠ []) : chF names f ≠ [] := by
  cases f with
  | nil => exact absurd rfl h
  | cons a l => simp [chF]
theorem chF_len (names : List (Str × Str)) (f : List Str) : (chF names f).length = f.length := by
  unfold chF
  rw [List.length_append, List.length_map, List.length_take, List.length_drop]
  omega
/-- .. into facts -/
theorem Fs.put {n m : Nat} {as : List (List Str)} {names : List (Str × Str)} (h : Fs n m as) (hv : ∀ p ∈ names, Vl p.2) : Fs n m (Rs.srtR (as.map (chF names))) := by
  refine ⟨Nat.le_trans (len_srtR _) (by rw [List.length_map]; exact h.1), fun a ha => ?_⟩
  obtain ⟨f, hf, rfl⟩ := List.mem_map.mp (mem_srtR.mp ha)
  obtain ⟨h1, h2, h3⟩ := h.2 f hf
  refine ⟨chF_ne h1, by rw [chF_len]; exact h2, fun t ht => ?_⟩
  rcases List.mem_append.mp ht with ht | ht
  · exact h3 t (List.mem_of_mem_take ht)
  · obtain ⟨v, hvm, rfl⟩ := List.mem_map.mp ht
    rcases get_mem (l := names) (k := v) (z := v) with e | e
    · rw [e]; exact h3 v (List.mem_of_mem_drop hvm)
    · exact hv _ e
def wdFact := Wd.tup 9 (Wd.str 8)
def wdStore := Wd.tup 80 wdFact
def eqStore := EqE.tup (EqE.tup EqE.str)
theorem Fs.s {n m : Nat} {as : List (List Str)} (h : Fs n m as) (hn : n ≤ 80) (hm : m ≤ 9) : Sh (eT (eT D.str) as) 2 (80 * (9 * (10 * 8 + 2 + 2) + 3 + 2) + 3) := wdStore.s eqStore ⟨Nat.le_trans h.1 hn, fun a ha => ⟨Nat.le_trans (h.2 a ha).2.1 hm, fun t ht => ⟨((h.2 a ha).2.2 t ht).1, ((h.2 a ha).2.2 t ht).2.2⟩⟩⟩
theorem Fs.sh {n m : Nat} {as : List (List Str)} (h : Fs n m as) (hn : n ≤ 80) (hm : m ≤ 9) : shOk (eT (eT D.str) as) = true := (h.s hn hm).sh (by decide) (by decide)
def wdPairs := Wd.tup 80 (Wd.pair (Wd.str 8) (Wd.str 8))
def eqPairs := EqE.tup (EqE.pair EqE.str EqE.str)
def wdRow := Wd.tup 80 (Wd.str 8)
end DL

/-! fitting an atom to a fact -/
namespace DL
open PySem PySem.Spec L2
/-- few signs, all below 123 -/
def Asc (t : Str) : Prop := 1 ≤ t.length ∧ t.length ≤ 8 ∧ ∀ c ∈ cpsS t, c < 123
theorem IsWord.asc {t : Str} (h : IsWord t) : Asc t := ⟨h.1, h.2.1, fun c hc => by have := h.2.2 c hc; omega⟩
theorem asc_var {t : Str} (h : isVarS t = true) : Asc t := by
  obtain ⟨c, h1, h2, rfl⟩ := isVarS_iff.mp h
  exact ⟨by simp [len_mk], by simp [len_mk], fun x hx => by rw [cps_mk] at hx; simp at hx; omega⟩
theorem asc_unks {t : Str} (h : t ∈ unks) : Asc t := by
  have : ∀ t ∈ unks, (1 ≤ t.length ∧ t.length ≤ 8) ∧ ∀ c ∈ cpsS t, c < 123 := by decide +kernel
  obtain ⟨h1, h2⟩ := this t h
  exact ⟨h1.1, h1.2, h2⟩
/-- what may be fitted -/
def freeS (t : Str) : Bool := match (cpsS t).head? with
  | some c => decide (c = 63) || decide (c ∈ capS)
  | none => false
theorem Asc.head {t : Str} (h : Asc t) : ∃ c l, cpsS t = c :: l ∧ c < 123 := by
  have hl := len_cps t
  have h1 := h.1
  cases q : cpsS t with
  | nil => rw [q] at hl; simp at hl; omega
  | cons c l => exact ⟨c, l, rfl, h.2.2 c (by rw [q]; simp)⟩
theorem q63 : (Str.ofString "?") = mkS [63] := by decide +kernel
/-! dicts with unlike keys -/
def KN {α : Type} (l : List (Str × α)) : Prop := (l.map (·.1)).Nodup
section
variable {α : Type} {l : List (Str × α)} {k x : Str} {v g : α}
theorem has_iff : dhas l k = true ↔ k ∈ l.map (·.1) := by
  unfold dhas
  rw [List.any_eq_true, List.mem_map]
  constructor
  · rintro ⟨p, h1, h2⟩; exact ⟨p, h1, of_decide_eq_true h2⟩
  · rintro ⟨p, h1, h2⟩; exact ⟨p, h1, decide_eq_true h2⟩
theorem look_of : ∀ {l : List (Str × α)}, KN l → (k, v) ∈ l → dlook l k = some v
  | [], _, h => by cases h
  | p :: l, n, h => by
    have n := List.nodup_cons.mp (show (p.1 :: l.map (·.1)).Nodup from n)
    unfold dlook
    rcases List.mem_cons.mp h with rfl | h
    · rw [if_pos rfl]
    · rw [if_neg, look_of n.2 h]
      intro e
      exact n.1 (List.mem_map.mpr ⟨(k, v), h, e.symm⟩)
theorem look_some (h : k ∈ l.map (·.1)) : ∃ v, dlook l k = some v := by
  induction l with
  | nil => cases h
  | cons p l ih =>
    unfold dlook
    by_cases e : p.1 = k
    · rw [if_pos e]; exact ⟨_, rfl⟩
    · rw [if_neg e]
      refine ih ?_
      rcases List.mem_cons.mp h with z | z
      · exact absurd z.symm e
      · exact z
theorem set_kn (n : KN l) : KN (dset l k g) := by
  unfold dset dput
  by_cases h : dhas l k = true
  · rw [if_pos h]; exact n
  · rw [if_neg h, if_neg h]
    unfold KN
    rw [List.map_append, List.nodup_append]
    exact ⟨n, by simp, fun a ha b hb => by
      rw [List.mem_singleton.mp hb]
      intro e
      have e : a = k := e
      subst e
      exact h (has_iff.mpr ha)⟩
theorem set_keys {y : Str} : y ∈ (dset l k g).map (·.1) ↔ y ∈ l.map (·.1) ∨ y = k := by
  unfold dset dput
  by_cases h : dhas l k = true
  · rw [if_pos h]
    exact ⟨.inl, fun q => q.elim id fun e => e ▸ has_iff.mp h⟩
  · rw [if_neg h, if_neg h]; simp
theorem set_len : (dset l k g).length ≤ l.length + 1 := by
  unfold dset dput
  by_cases h : dhas l k = true
  · rw [if_pos h]; omega
  · rw [if_neg h, if_neg h]; simp
theorem set_mem {p : Str × α} (h : p ∈ dset l k g) : p ∈ l ∨ p = (k, g) := by
  unfold dset at h
  split at h
  · exact .inl h
  · exact put_mem h
end
/-! the fit -/
abbrev Nm := List (Str × Str)
def stepF (own : Nm) (p : Str × Str) : Option Nm := if freeS p.1 = true then (if dget own p.1 p.2 = p.2 then some (dset own p.1 p.2) else none) else if p.1 = p.2 then some own else none
def fitL : Nm → List (Str × Str) → Option Nm
  | own, [] => some own
  | own, p :: ps => (stepF own p).bind fun o => fitL o ps
def fitF (a f : List Str) (own : Nm) : Option Nm := if a.length = f.length ∧ a.head? = f.head? then fitL own ((a.drop 1).zip (f.drop 1)) else none
def growF (a : List Str) (ways : List Nm) (store : List (List Str)) : List Nm := ways.flatMap fun own => store.filterMap fun f => fitF a f own
def fitsF (atoms : List (List Str)) (store : List (List Str)) (own : Nm) : List Nm := atoms.foldl (fun ways a => growF a ways store) [own]
/-- a way: few unlike names, values of a kind -/
structure Way (P : Str → Prop) (n : Nat) (own : Nm) : Prop where
  kn : KN own
  len : own.length ≤ n
  val : ∀ p ∈ own, P p.2
theorem Way.step {P : Str → Prop} {n : Nat} {own o : Nm} {p : Str × Str} (h : Way P n own) (hp : P p.2) (e : stepF own p = some o) : Way P (n + 1) o ∧ (∀ k ∈ own.map (·.1), k ∈ o.map (·.1)) ∧ (freeS p.1 = true → p.1 ∈ o.map (·.1)) := by
  unfold stepF at e
  split at e
  · split at e
    · cases e
      refine ⟨⟨set_kn h.kn, by have := set_len (l := own) (k := p.1) (g := p.2); have := h.len; omega, fun q hq => ?_⟩, fun k hk => set_keys.mpr (.inl hk), fun _ => set_keys.mpr (.inr rfl)⟩
      rcases set_mem hq with z | z
      · exact h.val q z
      · rw [z]; exact hp
    · cases e
  · rename_i hn
    split at e
    · cases e
      exact ⟨⟨h.kn, by have := h.len; omega, h.val⟩, fun _ hk => hk, fun q => absurd q hn⟩
    · cases e
theorem Way.fitL {P : Str → Prop} : ∀ {ps : List (Str × Str)} {n : Nat} {own o : Nm}, Way P n own → (∀ p ∈ ps, P p.2) → DL.fitL own ps = some o → Way P (n + ps.length) o ∧ (∀ k ∈ own.map (·.1), k ∈ o.map (·.1)) ∧ ∀ p ∈ ps, freeS p.1 = true → p.1 ∈ o.map (·.1)
  | [], n, own, o, h, _, e => by cases e; exact ⟨h, fun _ z => z, fun _ z => by cases z⟩
  | p :: ps, n, own, o, h, hp, e => by
    unfold DL.fitL at e
    cases q : stepF own p with
    | none => rw [q] at e; cases e
    | some o1 =>
      rw [q] at e
      obtain ⟨h1, h2, h3⟩ := h.step (hp p List.mem_cons_self) q
      obtain ⟨k1, k2, k3⟩ := Way.fitL h1 (fun x hx => hp x (List.mem_cons_of_mem _ hx)) e
      refine ⟨by rw [List.length_cons, show n + (ps.length + 1) = n + 1 + ps.length by omega]; exact k1, fun k hk => k2 k (h2 k hk), fun x hx hf => ?_⟩
      rcases List.mem_cons.mp hx with rfl | hx
      · exact k2 _ (h3 hf)
      · exact k3 x hx hf
theorem Way.fit {P : Str → Prop} {n : Nat} {own o : Nm} {a f : List Str} (h : Way P n own) (hp : ∀ v ∈ f.drop 1, P v) (e : fitF a f own = some o) : Way P (n + (a.length - 1)) o ∧ (∀ k ∈ own.map (·.1), k ∈ o.map (·.1)) ∧ ∀ t ∈ a.drop 1, freeS t = true → t ∈ o.map (·.1) := by
  unfold fitF at e
  split at e
  · rename_i hc
    obtain ⟨h1, h2, h3⟩ := Way.fitL h (fun p hp2 => hp _ (List.of_mem_zip hp2).2) e
    have hl := hc.1
    rw [List.length_zip, List.length_drop, List.length_drop, hl, Nat.min_self, ← hl] at h1
    refine ⟨h1, h2, fun t ht hf => ?_⟩
    obtain ⟨i, hi, rfl⟩ := List.mem_iff_getElem.mp ht
    have hi2 : i < (f.drop 1).length := by rw [List.length_drop] at hi ⊢; omega
    have hz : ((a.drop 1)[i], (f.drop 1)[i]) ∈ (a.drop 1).zip (f.drop 1) := by
      rw [List.mem_iff_getElem]
      exact ⟨i, by rw [List.length_zip]; omega, by simp⟩
    exact h3 _ hz hf
  · cases e
theorem Way.grow {P : Str → Prop} {n : Nat} {a : List Str} {ways : List Nm} {store : List (List Str)} (h : ∀ own ∈ ways, Way P n own) (hp : ∀ f ∈ store, ∀ v ∈ f.drop 1, P v) : ∀ o ∈ growF a ways store, ∃ own ∈ ways, Way P (n + (a.length - 1)) o ∧ (∀ k ∈ own.map (·.1), k ∈ o.map (·.1)) ∧ ∀ t ∈ a.drop 1, freeS t = true → t ∈ o.map (·.1) := fun o ho => by
  obtain ⟨own, h1, h2⟩ := List.mem_flatMap.mp ho
  obtain ⟨f, h3, h4⟩ := List.mem_filterMap.mp h2
  exact ⟨own, h1, (h own h1).fit (hp f h3) h4⟩
end DL

/-! strict orders of typed values -/
namespace DL
open PySem PySem.Spec L2
section
variable {α β : Type} [DecidableEq α] [DecidableEq β] {e : α → D} {e2 : β → D} {k k2 : Nat} {lt : α → α → Bool} {lt2 : β → β → Bool}
structure OE (e : α → D) (k : Nat) (lt : α → α → Bool) : Prop where
  E : EqE e k
  cpr : ∀ a b, cpr (py (e a)) (py (e b)) = true
  alk : ∀ a b, PySem.W.alike (py (e a)) (py (e b)) = true
  ltP : ∀ a b, ltP (py (e a)) (py (e b)) = lt a b
  leP : ∀ a b, leP (py (e a)) (py (e b)) = !lt b a
  dlt : ∀ a b, PySem.W.dataLt (py (e a)) (py (e b)) = lt a b
  irr : ∀ a, lt a a = false
  tr : ∀ a b c, lt a b = true → lt b c = true → lt a c = true
  tot : ∀ a b, lt a b = false → lt b a = false → a = b
theorem OE.eqv (h : OE e k lt) (a b : α) : PyData.eqv (py (e a)) (py (e b)) = decide (a = b) := eqB_dec h.E a b
def ltS (a b : Str) : Bool := decide (a.cps.toList < b.cps.toList)
theorem OE.str : OE D.str 0 ltS where
  E := EqE.str
  cpr := fun _ _ => rfl
  alk := fun _ _ => rfl
  ltP := fun _ _ => rfl
  leP := fun _ _ => rfl
  dlt := fun a b => PySem.W.dataLt_str a b
  irr := fun a => decide_eq_false (List.lt_irrefl _)
  tr := fun a b c h1 h2 => decide_eq_true (List.lt_trans (of_decide_eq_true h1) (of_decide_eq_true h2))
  tot := fun a b h1 h2 => cps_inj (List.le_antisymm (List.not_lt.mp (of_decide_eq_false h2)) (List.not_lt.mp (of_decide_eq_false h1)))
def ltI (a b : Int) : Bool := decide (a < b)
theorem OE.int : OE D.int 0 ltI where
  E := EqE.int
  cpr := fun _ _ => rfl
  alk := fun _ _ => rfl
  ltP := fun _ _ => rfl
  leP := fun a b => by
    show decide (a ≤ b) = !decide (b < a)
    by_cases h : b < a
    · rw [decide_eq_true h, decide_eq_false (by omega)]; rfl
    · rw [decide_eq_false h, decide_eq_true (by omega)]; rfl
  dlt := fun a b => PySem.W.dataLt_int a b
  irr := fun a => decide_eq_false (by omega)
  tr := fun a b c h1 h2 => decide_eq_true (by have := of_decide_eq_true h1; have := of_decide_eq_true h2; omega)
  tot := fun a b h1 h2 => by have := of_decide_eq_false h1; have := of_decide_eq_false h2; omega
/-- row by row -/
def lexB (lt : α → α → Bool) : List α → List α → Bool
  | [], [] => false
  | [], _ :: _ => true
  | _ :: _, [] => false
  | a :: l, b :: m => if a = b then lexB lt l m else lt a b
theorem lexB_irr (h : ∀ a, lt a a = false) : ∀ l : List α, lexB lt l l = false
  | [] => rfl
  | a :: l => by rw [lexB, if_pos rfl]; exact lexB_irr h l
theorem lexB_tr (h : OE e k lt) : ∀ a b c : List α, lexB lt a b = true → lexB lt b c = true → lexB lt a c = true
  | [], [], _, h1, _ => by simp [lexB] at h1
  | [], _ :: _, [], _, h2 => by simp [lexB] at h2
  | [], _ :: _, _ :: _, _, _ => rfl
  | _ :: _, [], _, h1, _ => by simp [lexB] at h1
  | _ :: _, _ :: _, [], _, h2 => by simp [lexB] at h2
  | a :: l, b :: m, c :: n, h1, h2 => by
    unfold lexB at h1 h2 ⊢
    by_cases e1 : a = b
    · subst e1
      rw [if_pos rfl] at h1
      by_cases e2 : a = c
      · subst e2
        rw [if_pos rfl] at h2 ⊢
        exact lexB_tr h l m n h1 h2
      · rw [if_neg e2] at h2 ⊢; exact h2
    · rw [if_neg e1] at h1
      by_cases e2 : b = c
      · subst e2
        rw [if_neg e1]; exact h1
      · rw [if_neg e2] at h2
        have h3 := h.tr _ _ _ h1 h2
        by_cases e3 : a = c
        · subst e3
          rw [h.irr] at h3; cases h3
        · rw [if_neg e3]; exact h3
theorem lexB_tot (h : OE e k lt) : ∀ a b : List α, lexB lt a b = false → lexB lt b a = false → a = b
  | [], [], _, _ => rfl
  | [], _ :: _, h1, _ => by simp [lexB] at h1
  | _ :: _, [], _, h2 => by simp [lexB] at h2
  | a :: l, b :: m, h1, h2 => by
    unfold lexB at h1 h2
    by_cases e1 : a = b
    · subst e1
      rw [if_pos rfl] at h1 h2
      rw [lexB_tot h l m h1 h2]
    · rw [if_neg e1] at h1
      rw [if_neg (Ne.symm e1)] at h2
      exact absurd (h.tot _ _ h1 h2) e1
theorem OE.tup (h : OE e k lt) : OE (eT e) (k + 1) (lexB lt) where
  E := h.E.tup
  cpr := fun l m => by
    show cprL (pyL (l.map e)) (pyL (m.map e)) = true
    induction l generalizing m with
    | nil => cases m <;> rfl
    | cons a l ih =>
      cases m with
      | nil => rfl
      | cons b m =>
        show (DL.cpr _ _ && cprL _ _) = true
        rw [h.cpr, ih]; rfl
  alk := fun l m => by
    show PySem.W.alikeAll (pyL (l.map e)) (pyL (m.map e)) = true
    induction l generalizing m with
    | nil => cases m <;> simp [pyL, PySem.W.alikeAll]
    | cons a l ih =>
      cases m with
      | nil => simp [pyL, PySem.W.alikeAll]
      | cons b m =>
        simp only [List.map_cons, pyL, PySem.W.alikeAll, h.alk, ih, Bool.and_self]
  ltP := fun l m => by
    show ltPL (pyL (l.map e)) (pyL (m.map e)) = _
    induction l generalizing m with
    | nil => cases m <;> rfl
    | cons a l ih =>
      cases m with
      | nil => rfl
      | cons b m =>
        simp only [List.map_cons, pyL, ltPL, lexB, h.eqv, decide_eq_true_eq, ih, h.ltP]
  leP := fun l m => by
    show lePL (pyL (l.map e)) (pyL (m.map e)) = _
    induction l generalizing m with
    | nil => cases m <;> rfl
    | cons a l ih =>
      cases m with
      | nil => rfl
      | cons b m =>
        simp only [List.map_cons, pyL, lePL, lexB, h.eqv, decide_eq_true_eq, ih, h.leP]
        by_cases q : a = b
        · rw [if_pos q, if_pos q.symm]
        · rw [if_neg q, if_neg (Ne.symm q)]
  dlt := fun l m => by
    show PySem.W.dataLt (.tuple (pyL (l.map e))) (.tuple (pyL (m.map e))) = _
    rw [PySem.W.dataLt_tuple]
    induction l generalizing m with
    | nil =>
      cases m with
      | nil => rfl
      | cons b m =>
        show PyProof.Rows.lexLt PyProof.Rows.itemOrd (PySem.W.keyToksAll []) (PySem.W.keyToksAll (py (e b) :: pyL (m.map e))) = true
        rw [PySem.W.toks_all_cons]
        rfl
    | cons a l ih =>
      cases m with
      | nil =>
        show PyProof.Rows.lexLt PyProof.Rows.itemOrd (PySem.W.keyToksAll (py (e a) :: pyL (l.map e))) (PySem.W.keyToksAll []) = false
        rw [PySem.W.toks_all_cons]
        rfl
      | cons b m =>
        show PyProof.Rows.lexLt PyProof.Rows.itemOrd (PySem.W.keyToksAll (py (e a) :: pyL (l.map e))) (PySem.W.keyToksAll (py (e b) :: pyL (m.map e))) = _
        rw [lexB]
        by_cases q : a = b
        · rw [if_pos q, PySem.W.dataLt_all_yes (h.alk _ _) (by rw [h.eqv]; exact decide_eq_true q), ih]
        · rw [if_neg q, PySem.W.dataLt_all_no (h.alk _ _) (by rw [h.eqv]; exact decide_eq_false q), h.dlt]
  irr := lexB_irr h.irr
  tr := lexB_tr h
  tot := lexB_tot h
def ltPr (lt : α → α → Bool) (lt2 : β → β → Bool) (p q : α × β) : Bool := if p.1 = q.1 then lt2 p.2 q.2 else lt p.1 q.1
theorem OE.pair (h : OE e k lt) (g : OE e2 k2 lt2) : OE (eP e e2) (max k k2 + 1) (ltPr lt lt2) where
  E := h.E.pair g.E
  cpr := fun p q => by
    show (DL.cpr _ _ && (DL.cpr _ _ && true)) = true
    rw [h.cpr, g.cpr]; rfl
  alk := fun p q => by
    show PySem.W.alikeAll [py (e p.1), py (e2 p.2)] [py (e q.1), py (e2 q.2)] = true
    simp only [PySem.W.alikeAll, h.alk, g.alk, Bool.and_self]
  ltP := fun p q => by
    show ltPL [py (e p.1), py (e2 p.2)] [py (e q.1), py (e2 q.2)] = _
    simp only [ltPL, ltPr, h.eqv, g.eqv, decide_eq_true_eq, h.ltP, g.ltP]
    by_cases e1 : p.2 = q.2
    · rw [if_pos e1, e1, g.irr]
    · rw [if_neg e1]
  leP := fun p q => by
    show lePL [py (e p.1), py (e2 p.2)] [py (e q.1), py (e2 q.2)] = _
    simp only [lePL, ltPr, h.eqv, g.eqv, decide_eq_true_eq, h.leP, g.leP]
    by_cases e0 : p.1 = q.1
    · rw [if_pos e0, if_pos e0.symm]
      by_cases e1 : p.2 = q.2
      · rw [if_pos e1, e1, g.irr]; rfl
      · rw [if_neg e1]
    · rw [if_neg e0, if_neg (Ne.symm e0)]
  dlt := fun p q => by
    show PySem.W.dataLt (.tuple [py (e p.1), py (e2 p.2)]) (.tuple [py (e q.1), py (e2 q.2)]) = _
    rw [PySem.W.dataLt_pair (h.alk _ _) (g.alk _ _), h.eqv, g.eqv, h.dlt, g.dlt]
    unfold ltPr
    simp only [decide_eq_true_eq]
    by_cases e1 : p.2 = q.2
    · rw [if_pos e1, e1, g.irr]
    · rw [if_neg e1]
  irr := fun p => by unfold ltPr; rw [if_pos rfl]; exact g.irr _
  tr := fun p q r h1 h2 => by
    unfold ltPr at *
    by_cases e1 : p.1 = q.1
    · rw [if_pos e1] at h1
      by_cases e2 : q.1 = r.1
      · rw [if_pos e2] at h2
        rw [if_pos (e1.trans e2)]
        exact g.tr _ _ _ h1 h2
      · rw [if_neg e2] at h2
        rw [e1, if_neg e2]; exact h2
    · rw [if_neg e1] at h1
      by_cases e2 : q.1 = r.1
      · rw [← e2, if_neg e1]; exact h1
      · rw [if_neg e2] at h2
        have h3 := h.tr _ _ _ h1 h2
        by_cases e3 : p.1 = r.1
        · rw [e3, h.irr] at h3; cases h3
        · rw [if_neg e3]; exact h3
  tot := fun p q h1 h2 => by
    unfold ltPr at *
    by_cases e1 : p.1 = q.1
    · rw [if_pos e1] at h1
      rw [if_pos e1.symm] at h2
      exact Prod.ext e1 (g.tot _ _ h1 h2)
    · rw [if_neg e1] at h1
      rw [if_neg (Ne.symm e1)] at h2
      exact absurd (h.tot _ _ h1 h2) e1
/-! what is asked of typed values by it -/
theorem OE.cmp (h : OE e k lt) (hk : k ≤ 60) (a : α) : cmpOk (e a) = true := h.E.cmp hk a
theorem OE.ltB (h : OE e k lt) (a b : α) : DL.ltB (e a) (e b) = lt a b := h.ltP a b
theorem OE.leB (h : OE e k lt) (a b : α) : DL.leB (e a) (e b) = !lt b a := h.leP a b
theorem OE.minOk (h : OE e k lt) (hk : k ≤ 60) (hn : NI e) (l : List α) : minOk (l.map e) = true := by
  unfold DL.minOk alkB
  simp only [Bool.and_eq_true, List.all_map]
  exact ⟨⟨List.all_eq_true.mpr fun a _ => h.cmp hk a, List.all_eq_true.mpr fun a _ => List.all_eq_true.mpr fun b _ => h.alk a b⟩, List.all_eq_true.mpr fun a _ => by show (!isNo (e a)) = true; rw [hn a]; rfl⟩
theorem OE.min (h : OE e k lt) (hk : k ≤ 60) (hn : NI e) (x : α) (xs : List α) : Pg.minE e (x :: xs) = .ret (minT lt x xs) := by
  unfold Pg.minE
  dsimp only
  rw [Pg.req_t (h.minOk hk hn (x :: xs))]
  have : (fun a b => PySem.W.dataLt (py (e a)) (py (e b))) = lt := by
    funext a b; exact h.dlt a b
  rw [this]
/-- the least by membership -/
theorem minT_mem {f : α → α → Bool} : ∀ (xs : List α) (x : α), minT f x xs ∈ x :: xs
  | [], x => List.mem_cons_self
  | y :: ys, x => by
    have := minT_mem (f := f) ys (if f y x = true then y else x)
    show minT f (if f y x = true then y else x) ys ∈ _
    rcases List.mem_cons.mp this with z | z
    · rw [z]
      split
      · exact List.mem_cons_of_mem _ List.mem_cons_self
      · exact List.mem_cons_self
    · exact List.mem_cons_of_mem _ (List.mem_cons_of_mem _ z)
theorem minT_le (h : OE e k lt) : ∀ (xs : List α) (x : α), ∀ y ∈ x :: xs, lt y (minT lt x xs) = false
  | [], x, y, hy => by rw [List.mem_singleton.mp hy]; exact h.irr x
  | z :: zs, x, y, hy => by
    show lt y (minT lt (if lt z x = true then z else x) zs) = false
    have ih := minT_le h zs (if lt z x = true then z else x)
    -- the better of x and z
    have ih0 := ih _ List.mem_cons_self
    have le_of : ∀ w, lt w (if lt z x = true then z else x) = false → lt w (minT lt (if lt z x = true then z else x) zs) = false := fun w hw => by
      cases q : lt w (minT lt (if lt z x = true then z else x) zs) with
      | false => rfl
      | true =>
        -- m ≤ b, w < m: w < b
        cases q2 : lt (minT lt (if lt z x = true then z else x) zs) (if lt z x = true then z else x) with
        | true => rw [h.tr _ _ _ q q2] at hw; cases hw
        | false =>
          have := h.tot _ _ q2 ih0
          rw [this] at q
          rw [q] at hw; cases hw
    rcases List.mem_cons.mp hy with e1 | hy
    · rw [e1]
      refine le_of x ?_
      split
      · rename_i hz
        cases q : lt x z with
        | false => rfl
        | true => have := h.tr _ _ _ q hz; rw [h.irr] at this; cases this
      · exact h.irr x
    · rcases List.mem_cons.mp hy with e1 | hy
      · rw [e1]
        refine le_of z ?_
        split
        · exact h.irr z
        · rename_i hz; simpa using hz
      · exact ih y (List.mem_cons_of_mem _ hy)
theorem minT_eq (h : OE e k lt) {x y : α} {xs ys : List α} (hm : ∀ a, a ∈ x :: xs ↔ a ∈ y :: ys) : minT lt x xs = minT lt y ys :=
  h.tot _ _ (minT_le h ys y _ ((hm _).mp (minT_mem xs x))) (minT_le h xs x _ ((hm _).mpr (minT_mem ys y)))
end
end DL

/-! renamed stores, orders, plain names -/
namespace DL
open PySem PySem.Spec L2
abbrev Sto := List (List Str)
def ltF := lexB ltS
def ltSt := lexB ltF
theorem oeF : OE (eT D.str) 1 ltF := OE.str.tup
theorem oeSt : OE (eT (eT D.str)) 2 ltSt := oeF.tup
/-- values put in the place of values -/
def chf (f : Str → Str) (a : List Str) : List Str := a.take 1 ++ (a.drop 1).map f
def renf (f : Str → Str) (s : Sto) : Sto := Rs.srtR (s.map (chf f))
def nmf (names : List (Str × Str)) (v : Str) : Str := dget names v v
theorem chf_chf (f g : Str → Str) (a : List Str) : chf g (chf f a) = chf (g ∘ f) a := by
  cases a with
  | nil => rfl
  | cons r l => simp [chf]
theorem chf_drop (f : Str → Str) (a : List Str) : (chf f a).drop 1 = (a.drop 1).map f := by
  cases a with
  | nil => rfl
  | cons r l => simp [chf]
theorem chf_len (f : Str → Str) (a : List Str) : (chf f a).length = a.length := by
  cases a with
  | nil => rfl
  | cons r l => simp [chf]
theorem chf_ne {f : Str → Str} {a : List Str} (h : a ≠ []) : chf f a ≠ [] := by
  cases a with
  | nil => exact absurd rfl h
  | cons r l => simp [chf]
theorem chf_id {f : Str → Str} {a : List Str} (h : ∀ v ∈ a.drop 1, f v = v) : chf f a = a := by
  unfold chf
  rw [List.map_congr_left h, List.map_id', List.take_append_drop]
theorem chf_congr {f g : Str → Str} {a : List Str} (h : ∀ v ∈ a.drop 1, f v = g v) : chf f a = chf g a := by
  unfold chf
  rw [List.map_congr_left h]
theorem mem_renf {f : Str → Str} {s : Sto} {a : List Str} : a ∈ renf f s ↔ ∃ b ∈ s, a = chf f b := by
  unfold renf
  rw [mem_srtR, List.mem_map]
  exact ⟨fun ⟨b, h1, h2⟩ => ⟨b, h1, h2.symm⟩, fun ⟨b, h1, h2⟩ => ⟨b, h1, h2.symm⟩⟩
theorem can_renf (f : Str → Str) (s : Sto) : CanR (renf f s) := can_srtR _
theorem renf_eq {f g : Str → Str} {s t : Sto} (h : ∀ a, (∃ b ∈ s, a = chf f b) ↔ ∃ b ∈ t, a = chf g b) : renf f s = renf g t :=
  (can_renf f s).eq (can_renf g t) fun a => by rw [mem_renf, mem_renf]; exact h a
/-- the values of a store -/
def valsOf (s : Sto) : List Str := s.flatMap (·.drop 1)
theorem mem_vals {s : Sto} {v : Str} : v ∈ valsOf s ↔ ∃ a ∈ s, v ∈ a.drop 1 := List.mem_flatMap
theorem renf_congr {f g : Str → Str} {s : Sto} (h : ∀ v ∈ valsOf s, f v = g v) : renf f s = renf g s := by
  unfold renf
  rw [List.map_congr_left fun a ha => chf_congr fun v hv => h v (mem_vals.mpr ⟨a, ha, hv⟩)]
theorem renf_renf (f g : Str → Str) (s : Sto) : renf g (renf f s) = renf (g ∘ f) s := by
  refine renf_eq fun a => ⟨fun ⟨b, h1, h2⟩ => ?_, fun ⟨b, h1, h2⟩ => ?_⟩
  · obtain ⟨c, h3, rfl⟩ := mem_renf.mp h1
    exact ⟨c, h3, by rw [h2, chf_chf]⟩
  · exact ⟨chf f b, mem_renf.mpr ⟨b, h1, rfl⟩, by rw [h2, chf_chf]⟩
theorem renf_id {f : Str → Str} {s : Sto} (hs : CanR s) (h : ∀ v ∈ valsOf s, f v = v) : renf f s = s := by
  have : s.map (chf f) = s := by
    have e : s.map (chf f) = s.map id := List.map_congr_left fun a ha => chf_id fun v hv => h v (mem_vals.mpr ⟨a, ha, hv⟩)
    rw [e, List.map_id]
  unfold renf
  rw [this]; exact srtR_can hs
theorem vals_renf {f : Str → Str} {s : Sto} {v : Str} : v ∈ valsOf (renf f s) ↔ ∃ u ∈ valsOf s, v = f u := by
  rw [mem_vals]
  constructor
  · rintro ⟨a, h1, h2⟩
    obtain ⟨b, h3, rfl⟩ := mem_renf.mp h1
    rw [chf_drop] at h2
    obtain ⟨u, h4, rfl⟩ := List.mem_map.mp h2
    exact ⟨u, mem_vals.mpr ⟨b, h3, h4⟩, rfl⟩
  · rintro ⟨u, h1, rfl⟩
    obtain ⟨b, h2, h3⟩ := mem_vals.mp h1
    exact ⟨chf f b, mem_renf.mpr ⟨b, h2, rfl⟩, by rw [chf_drop]; exact List.mem_map_of_mem h3⟩
theorem mem_unk {s : Sto} {v : Str} : v ∈ unkOf s ↔ v ∈ valsOf s ∧ isUnk v = true := by
  rw [mem_unkOf, mem_vals]
  constructor
  · rintro ⟨a, h1, h2⟩
    obtain ⟨h3, h4⟩ := List.mem_filter.mp h2
    exact ⟨⟨a, h1, h3⟩, h4⟩
  · rintro ⟨⟨a, h1, h2⟩, h3⟩
    exact ⟨a, h1, List.mem_filter.mpr ⟨h2, h3⟩⟩
theorem unk_can (s : Sto) : Can (unkOf s) := can_srtS _
theorem unk_nodup (s : Sto) : (unkOf s).Nodup := (unk_can s).1
/-- unknowns are named one-to-one; other values stay -/
structure Iso (f : Str → Str) (s : Sto) : Prop where
  con : ∀ v, isUnk v = false → f v = v
  unk : ∀ u ∈ unkOf s, isUnk (f u) = true
  inj : ∀ u ∈ unkOf s, ∀ v ∈ unkOf s, f u = f v → u = v
theorem Iso.injV {f : Str → Str} {s : Sto} (h : Iso f s) : ∀ u ∈ valsOf s, ∀ v ∈ valsOf s, f u = f v → u = v := fun u hu v hv e => by
  cases q : isUnk u with
  | true =>
    cases q2 : isUnk v with
    | true => exact h.inj u (mem_unk.mpr ⟨hu, q⟩) v (mem_unk.mpr ⟨hv, q2⟩) e
    | false =>
      have := h.unk u (mem_unk.mpr ⟨hu, q⟩)
      rw [e, h.con v q2, q2] at this; cases this
  | false =>
    cases q2 : isUnk v with
    | true =>
      have := h.unk v (mem_unk.mpr ⟨hv, q2⟩)
      rw [← e, h.con u q, q] at this; cases this
    | false => rw [h.con u q, h.con v q2] at e; exact e
theorem Iso.unks {f : Str → Str} {s : Sto} (h : Iso f s) {v : Str} : v ∈ unkOf (renf f s) ↔ ∃ u ∈ unkOf s, v = f u := by
  rw [mem_unk, vals_renf]
  constructor
  · rintro ⟨⟨u, h1, rfl⟩, h2⟩
    cases q : isUnk u with
    | true => exact ⟨u, mem_unk.mpr ⟨h1, q⟩, rfl⟩
    | false => rw [h.con u q, q] at h2; cases h2
  · rintro ⟨u, h1, rfl⟩
    exact ⟨⟨u, (mem_unk.mp h1).1, rfl⟩, h.unk u h1⟩
/-- the other way back -/
noncomputable def invf (f : Str → Str) (s : Sto) (v : Str) : Str := if h : ∃ u ∈ unkOf s, f u = v then h.choose else v
theorem invf_f {f : Str → Str} {s : Sto} (h : Iso f s) {u : Str} (hu : u ∈ unkOf s) : invf f s (f u) = u := by
  have hx : ∃ w ∈ unkOf s, f w = f u := ⟨u, hu, rfl⟩
  unfold invf
  rw [dif_pos hx]
  exact h.inj _ hx.choose_spec.1 _ hu hx.choose_spec.2
theorem Iso.back {f : Str → Str} {s : Sto} (h : Iso f s) : Iso (invf f s) (renf f s) where
  con := fun v hv => by
    unfold invf
    rw [dif_neg]
    rintro ⟨u, h1, rfl⟩
    rw [h.unk u h1] at hv; cases hv
  unk := fun v hv => by
    obtain ⟨u, h1, rfl⟩ := h.unks.mp hv
    rw [invf_f h h1]
    exact (mem_unk.mp h1).2
  inj := fun u hu v hv e => by
    obtain ⟨a, h1, rfl⟩ := h.unks.mp hu
    obtain ⟨b, h2, rfl⟩ := h.unks.mp hv
    rw [invf_f h h1, invf_f h h2] at e
    rw [e]
theorem Iso.round {f : Str → Str} {s : Sto} (h : Iso f s) (hs : CanR s) : renf (invf f s) (renf f s) = s := by
  rw [renf_renf]
  refine renf_id hs fun v hv => ?_
  show invf f s (f v) = v
  cases q : isUnk v with
  | true => exact invf_f h (mem_unk.mpr ⟨hv, q⟩)
  | false => rw [h.con v q]; exact h.back.con v q
theorem Iso.comp {f g : Str → Str} {s : Sto} (h : Iso f s) (k : Iso g (renf f s)) : Iso (g ∘ f) s := ⟨fun v hv => by
    (show g (f v) = v)
    (rw [h.con v hv, k.con v hv]), fun u hu => k.unk _ (h.unks.mpr ⟨u, hu, rfl⟩), fun u hu v hv e => h.inj u hu v hv (k.inj _ (h.unks.mpr ⟨u, hu, rfl⟩) _ (h.unks.mpr ⟨v, hv, rfl⟩) e)⟩
theorem Iso.len {f : Str → Str} {s : Sto} (h : Iso f s) : (unkOf (renf f s)).length = (unkOf s).length := by
  have e : unkOf (renf f s) = St.srtS ((unkOf s).map f) := (unk_can _).eq (can_srtS _) fun v => by
    rw [h.unks, mem_srtS, List.mem_map]
    exact ⟨fun ⟨u, h1, h2⟩ => ⟨u, h1, h2.symm⟩, fun ⟨u, h1, h2⟩ => ⟨u, h1, h2.symm⟩⟩
  have nd : ((unkOf s).map f).Nodup := by
    rw [List.nodup_iff_pairwise_ne, List.pairwise_map]
    exact List.Pairwise.imp_of_mem (fun {a b} ha hb hne e => hne (h.inj a ha b hb e)) (List.nodup_iff_pairwise_ne.mp (unk_nodup s))
  have p : (unkOf (renf f s)).Perm ((unkOf s).map f) := (List.perm_ext_iff_of_nodup (unk_nodup _) nd).mpr fun v => by rw [e, mem_srtS]
  rw [p.length_eq, List.length_map]
/-! ### all orders -/
def stepO (items : List Str) (found : List (List Str)) : List (List Str) := found.flatMap fun s => (items.filter fun i => !decide (i ∈ s)).map fun i => s ++ [i]
def itO (items : List Str) : Nat → List (List Str)
  | 0 => [[]]
  | k + 1 => stepO items (itO items k)
def ordsF (items : List Str) : List (List Str) := itO items items.length
theorem mem_itO {items : List Str} : ∀ {k : Nat} {o : List Str}, o ∈ itO items k ↔ o.Nodup ∧ (∀ x ∈ o, x ∈ items) ∧ o.length = k
  | 0, o => by
    simp only [itO, List.mem_singleton]
    constructor
    · rintro rfl; simp
    · rintro ⟨_, _, h⟩; exact List.length_eq_zero_iff.mp h
  | k + 1, o => by
    show o ∈ stepO items (itO items k) ↔ _
    unfold stepO
    rw [List.mem_flatMap]
    constructor
    · rintro ⟨s, h1, h2⟩
      obtain ⟨i, h3, rfl⟩ := List.mem_map.mp h2
      obtain ⟨h4, h5⟩ := List.mem_filter.mp h3
      obtain ⟨g1, g2, g3⟩ := mem_itO.mp h1
      have h5 : i ∉ s := by simpa using h5
      refine ⟨?_, fun x hx => ?_, by simp [g3]⟩
      · rw [List.nodup_append]
        exact ⟨g1, by simp, fun a ha b hb e => h5 (by rw [List.mem_singleton.mp hb] at e; exact e ▸ ha)⟩
      · rcases List.mem_append.mp hx with hx | hx
        · exact g2 x hx
        · rw [List.mem_singleton.mp hx]; exact h4
    · rintro ⟨h1, h2, h3⟩
      have hne : o ≠ [] := fun e => by rw [e] at h3; cases h3
      obtain ⟨s, i, rfl⟩ : ∃ s i, o = s ++ [i] := ⟨o.dropLast, o.getLast hne, (List.dropLast_concat_getLast hne).symm⟩
      obtain ⟨n1, n2, n3⟩ := List.nodup_append.mp h1
      refine ⟨s, mem_itO.mpr ⟨n1, fun x hx => h2 x (List.mem_append_left _ hx), by simpa using h3⟩, List.mem_map.mpr ⟨i, List.mem_filter.mpr ⟨h2 i (by simp), ?_⟩, rfl⟩⟩
      have : i ∉ s := fun hi => n3 i hi i (by simp) rfl
      simpa using this
theorem mem_ordsF {items o : List Str} : o ∈ ordsF items ↔ o.Nodup ∧ (∀ x ∈ o, x ∈ items) ∧ o.length = items.length := mem_itO
/-! ### new names -/
def newU (n : Nat) : List Str := (rng 0 n).map fun k => Str.ofString "?" ++ Str.ofString (toString (k + 1))
theorem newU_len (n : Nat) : (newU n).length = n := by
  unfold newU
  rw [List.length_map, rng_len]; omega
theorem newU_ok : ∀ n, n ≤ 20 → (newU n).Nodup ∧ ∀ t ∈ newU n, PyData.strOk t = true ∧ 1 ≤ t.length ∧ t.length ≤ 8 ∧ isUnk t = true := by
  have : ∀ n : Fin 21, (newU n).Nodup ∧ ∀ t ∈ newU n, PyData.strOk t = true ∧ 1 ≤ t.length ∧ t.length ≤ 8 ∧ isUnk t = true := by decide +kernel
  exact fun n hn => this ⟨n, by omega⟩
theorem newU_nodup {n : Nat} (hn : n ≤ 20) : (newU n).Nodup := (newU_ok n hn).1
theorem newU_vl {n : Nat} (hn : n ≤ 20) {t : Str} (h : t ∈ newU n) : Vl t ∧ isUnk t = true := by
  obtain ⟨h1, h2, h3, h4⟩ := (newU_ok n hn).2 t h
  exact ⟨⟨h1, h2, h3⟩, h4⟩
end DL

/-! the plain store -/
namespace DL
open PySem PySem.Spec L2
section
variable {α : Type}
theorem put_new {l : List (Str × α)} {k : Str} {v : α} (h : k ∉ l.map (·.1)) : dput l k v = l ++ [(k, v)] := by
  unfold dput
  rw [if_neg]
  intro z
  exact h (has_iff.mp z)
theorem merge_kn {l : List (Str × α)} (h : KN l) : dmerge l = l := by
  have gen : ∀ (l acc : List (Str × α)), KN (acc ++ l) → l.foldl (fun acc p => dput acc p.1 p.2) acc = acc ++ l := by
    intro l
    induction l with
    | nil => intro acc _; simp
    | cons p l ih =>
      intro acc h
      rw [List.foldl_cons]
      have hp : p.1 ∉ acc.map (·.1) := by
        unfold KN at h
        rw [List.map_append, List.nodup_append] at h
        exact fun z => h.2.2 p.1 z p.1 (by simp) rfl
      rw [put_new hp, ih _ (by rw [List.append_assoc]; exact h), List.append_assoc]
      rfl
  exact gen l [] h
theorem get_of {l : List (Str × α)} {k : Str} {v z : α} (h : KN l) (hm : (k, v) ∈ l) : dget l k z = v := by
  unfold dget
  rw [look_of h hm]; rfl
theorem get_no {l : List (Str × α)} {k : Str} {z : α} (h : k ∉ l.map (·.1)) : dget l k z = z := by
  rcases get_mem (l := l) (k := k) (z := z) with e | e
  · exact e
  · exact absurd (List.mem_map.mpr ⟨_, e, rfl⟩) h
theorem zip_fst {α β : Type} : ∀ {l : List α} {m : List β}, l.length ≤ m.length → (l.zip m).map (·.1) = l
  | [], _, _ => rfl
  | _ :: _, [], h => by simp at h
  | a :: l, b :: m, h => by
    rw [List.zip_cons_cons, List.map_cons, zip_fst (by simpa using h)]
theorem kn_zip {l : List Str} {m : List α} (h : l.Nodup) (hl : l.length ≤ m.length) : KN (l.zip m) := by
  unfold KN
  rw [zip_fst hl]; exact h
end
/-- as many unlike ones: all of them -/
theorem all_of {α : Type} [DecidableEq α] {l m : List α} (h : l.Nodup) (hs : ∀ x ∈ l, x ∈ m) (hl : m.length ≤ l.length) : ∀ x ∈ m, x ∈ l := fun x hx => by
  by_cases q : x ∈ l
  · exact q
  · have := nodup_le (x :: l) m (List.nodup_cons.mpr ⟨q, h⟩) fun y hy => by
      rcases List.mem_cons.mp hy with z | z
      · rw [z]; exact hx
      · exact hs y z
    simp at this
    omega
def candF (s : Sto) : List Sto := (ordsF (unkOf s)).map fun o => renf (nmf (dmerge (o.zip (newU (unkOf s).length)))) s
def plainF (s : Sto) : Sto := match candF s with
  | [] => []
  | x :: xs => minT ltSt x xs
theorem nmf_zip {o n : List Str} (ho : o.Nodup) (hl : o.length = n.length) {i : Nat} (hi : i < o.length) : nmf (dmerge (o.zip n)) o[i] = n[i] := by
  have kn := kn_zip (m := n) ho (by omega)
  unfold nmf
  rw [merge_kn kn]
  refine get_of kn ?_
  rw [List.mem_iff_getElem]
  exact ⟨i, by rw [List.length_zip]; omega, by simp⟩
theorem nmf_out {o n : List Str} (ho : o.Nodup) (hl : o.length = n.length) {v : Str} (hv : v ∉ o) : nmf (dmerge (o.zip n)) v = v := by
  have kn := kn_zip (m := n) ho (by omega)
  unfold nmf
  rw [merge_kn kn]
  exact get_no (by rw [zip_fst (by omega)]; exact hv)
/-- names in an order to unlike new ones -/
theorem iso_zip {o n : List Str} {s : Sto} (ho : o.Nodup) (hl : o.length = n.length) (hn : n.Nodup) (hu : ∀ t ∈ n, isUnk t = true) (h1 : ∀ x ∈ o, isUnk x = true) (h2 : ∀ u ∈ unkOf s, u ∈ o) : Iso (nmf (dmerge (o.zip n))) s ∧ ∀ u ∈ o, nmf (dmerge (o.zip n)) u ∈ n := by
  have key : ∀ u ∈ o, ∃ (i : Nat) (hi : i < o.length), u = o[i] ∧ nmf (dmerge (o.zip n)) u = n[i] := fun u h => by
    obtain ⟨i, hi, rfl⟩ := List.mem_iff_getElem.mp h
    exact ⟨i, hi, rfl, nmf_zip ho hl hi⟩
  refine ⟨⟨fun v hv => nmf_out ho hl fun z => (by rw [h1 v z] at hv; cases hv), fun u h => ?_, fun u h v h' e => ?_⟩, fun u h => ?_⟩
  · obtain ⟨i, hi, _, e⟩ := key u (h2 u h)
    rw [e]; exact hu _ (List.getElem_mem _)
  · obtain ⟨i, hi, e1, e2⟩ := key u (h2 u h)
    obtain ⟨j, hj, e3, e4⟩ := key v (h2 v h')
    rw [e2, e4] at e
    have := (List.getElem_inj hn).mp e
    subst this
    rw [e1, e3]
  · obtain ⟨i, hi, _, e⟩ := key u h
    rw [e]; exact List.getElem_mem _
theorem cand_iff {s y : Sto} (hn : (unkOf s).length ≤ 20) : y ∈ candF s ↔ ∃ g, Iso g s ∧ (∀ u ∈ unkOf s, g u ∈ newU (unkOf s).length) ∧ y = renf g s := by
  have nl := newU_len (unkOf s).length
  have nd := newU_nodup hn
  unfold candF
  rw [List.mem_map]
  constructor
  · rintro ⟨o, ho, rfl⟩
    obtain ⟨h1, h2, h3⟩ := mem_ordsF.mp ho
    have al := all_of h1 h2 (by omega)
    obtain ⟨i1, i2⟩ := iso_zip (s := s) h1 (by omega) nd (fun t ht => (newU_vl hn ht).2) (fun x hx => (mem_unk.mp (h2 x hx)).2) al
    exact ⟨_, i1, fun u hu => i2 u (al u hu), rfl⟩
  · rintro ⟨g, hg, hg2, rfl⟩
    have mnd : ((unkOf s).map g).Nodup := by
      rw [List.nodup_iff_pairwise_ne, List.pairwise_map]
      exact List.Pairwise.imp_of_mem (fun {a b} ha hb hne e => hne (hg.inj a ha b hb e)) (List.nodup_iff_pairwise_ne.mp (unk_nodup s))
    have sur : ∀ t ∈ newU (unkOf s).length, ∃ u ∈ unkOf s, t = g u := fun t ht => by
      have := all_of mnd (m := newU (unkOf s).length) (fun x hx => by obtain ⟨u, hu, rfl⟩ := List.mem_map.mp hx; exact hg2 u hu) (by rw [List.length_map]; omega) t ht
      obtain ⟨u, hu, e⟩ := List.mem_map.mp this
      exact ⟨u, hu, e.symm⟩
    have ond : ((newU (unkOf s).length).map (invf g s)).Nodup := by
      rw [List.nodup_iff_pairwise_ne, List.pairwise_map]
      refine List.Pairwise.imp_of_mem (fun {a b} ha hb hne e => hne ?_) (List.nodup_iff_pairwise_ne.mp nd)
      obtain ⟨u, hu, rfl⟩ := sur a ha
      obtain ⟨v, hv, rfl⟩ := sur b hb
      rw [invf_f hg hu, invf_f hg hv] at e
      rw [e]
    refine ⟨(newU (unkOf s).length).map (invf g s), mem_ordsF.mpr ⟨ond, fun x hx => ?_, by rw [List.length_map]; exact nl⟩, ?_⟩
    · obtain ⟨t, ht, rfl⟩ := List.mem_map.mp hx
      obtain ⟨u, hu, rfl⟩ := sur t ht
      rw [invf_f hg hu]; exact hu
    · refine renf_congr fun v hv => ?_
      cases q : isUnk v with
      | true =>
        have hu := mem_unk.mpr ⟨hv, q⟩
        have kn := kn_zip (m := newU (unkOf s).length) ond (by rw [List.length_map]; omega)
        unfold nmf
        rw [merge_kn kn]
        refine get_of kn ?_
        obtain ⟨i, hi, e⟩ := List.mem_iff_getElem.mp (hg2 v hu)
        rw [List.mem_iff_getElem]
        refine ⟨i, by rw [List.length_zip, List.length_map]; omega, ?_⟩
        rw [List.getElem_zip, List.getElem_map, e, invf_f hg hu]
      | false =>
        rw [hg.con v q]
        refine nmf_out ond (by rw [List.length_map]) fun z => ?_
        obtain ⟨t, ht, e⟩ := List.mem_map.mp z
        obtain ⟨u, hu, rfl⟩ := sur t ht
        rw [invf_f hg hu] at e
        subst e
        rw [(mem_unk.mp hu).2] at q; cases q
theorem cand_ne (s : Sto) : candF s ≠ [] := fun e => by
  have h : unkOf s ∈ ordsF (unkOf s) := mem_ordsF.mpr ⟨unk_nodup s, fun _ h => h, rfl⟩
  have : renf (nmf (dmerge ((unkOf s).zip (newU (unkOf s).length)))) s ∈ candF s := List.mem_map.mpr ⟨_, h, rfl⟩
  rw [e] at this; cases this
theorem plain_mem (s : Sto) : plainF s ∈ candF s := by
  unfold plainF
  have := cand_ne s
  cases q : candF s with
  | nil => exact absurd q this
  | cons x xs => exact minT_mem xs x
theorem plain_eq_of {s t : Sto} (h : ∀ y, y ∈ candF s ↔ y ∈ candF t) : plainF s = plainF t := by
  have h1 := cand_ne s
  have h2 := cand_ne t
  unfold plainF
  cases q : candF s with
  | nil => exact absurd q h1
  | cons x xs =>
    cases q2 : candF t with
    | nil => exact absurd q2 h2
    | cons y ys =>
      rw [q, q2] at h
      exact minT_eq oeSt h
/-- it is a store renamed -/
theorem plain_iso {s : Sto} (hn : (unkOf s).length ≤ 20) : ∃ g, Iso g s ∧ (∀ u ∈ unkOf s, g u ∈ newU (unkOf s).length) ∧ plainF s = renf g s := (cand_iff hn).mp (plain_mem s)
/-- it is the same for the renamed one -/
theorem plain_ren {f : Str → Str} {s : Sto} (hn : (unkOf s).length ≤ 20) (hs : CanR s) (h : Iso f s) : plainF (renf f s) = plainF s := by
  refine plain_eq_of fun y => ?_
  rw [cand_iff hn, cand_iff (by rw [h.len]; exact hn), h.len]
  constructor
  · rintro ⟨g, h1, h2, rfl⟩
    exact ⟨g ∘ f, h.comp h1, fun u hu => h2 _ (h.unks.mpr ⟨u, hu, rfl⟩), renf_renf _ _ _⟩
  · rintro ⟨g, h1, h2, rfl⟩
    have hb := h.back
    have hr := h.round hs
    refine ⟨g ∘ invf f s, hb.comp (by rw [hr]; exact h1), fun u hu => ?_, ?_⟩
    · obtain ⟨v, hv, rfl⟩ := h.unks.mp hu
      show g (invf f s (f v)) ∈ _
      rw [invf_f h hv]; exact h2 v hv
    · rw [← renf_renf, hr]
theorem Fs.ren {n m : Nat} {s : Sto} {f : Str → Str} (h : Fs n m s) (hf : ∀ v ∈ valsOf s, Vl (f v)) : Fs n m (renf f s) := by
  refine ⟨Nat.le_trans (len_srtR _) (by rw [List.length_map]; exact h.1), fun a ha => ?_⟩
  obtain ⟨b, hb, rfl⟩ := mem_renf.mp ha
  obtain ⟨h1, h2, h3⟩ := h.2 b hb
  refine ⟨chf_ne h1, by rw [chf_len]; exact h2, fun t ht => ?_⟩
  rcases List.mem_append.mp ht with ht | ht
  · exact h3 t (List.mem_of_mem_take ht)
  · obtain ⟨v, hv, rfl⟩ := List.mem_map.mp ht
    exact hf v (mem_vals.mpr ⟨b, hb, hv⟩)
theorem Fs.val {n m : Nat} {s : Sto} (h : Fs n m s) {v : Str} (hv : v ∈ valsOf s) : Vl v := by
  obtain ⟨a, h1, h2⟩ := mem_vals.mp hv
  exact (h.2 a h1).2.2 v (List.mem_of_mem_drop h2)
theorem Fs.plain {n m : Nat} {s : Sto} (h : Fs n m s) (hn : (unkOf s).length ≤ 20) : Fs n m (plainF s) ∧ (unkOf (plainF s)).length = (unkOf s).length := by
  obtain ⟨g, h1, h2, h3⟩ := plain_iso hn
  rw [h3]
  refine ⟨h.ren fun v hv => ?_, h1.len⟩
  cases q : isUnk v with
  | true => exact (newU_vl hn (h2 v (mem_unk.mpr ⟨hv, q⟩))).1
  | false => rw [h1.con v q]; exact h.val hv
end DL

/-! runs of the usual pieces -/
namespace DL
open PySem PySem.Spec L2
section
variable {α β γ σ : Type}
end
end DL

/-! drawn stores: what their unknowns are -/
namespace DL
open PySem PySem.Spec L2
end DL
namespace DL
open PySem PySem.Spec L2
theorem Fs.sub {n m : Nat} {s t : Sto} (h : Fs n m s) (hl : t.length ≤ n) (ht : ∀ a ∈ t, a ∈ s) : Fs n m t := ⟨hl, fun a ha => h.2 a (ht a ha)⟩
theorem CanR.drop {s : Sto} (h : CanR s) (k : Nat) : CanR (s.drop k) := ⟨h.1.sublist (List.drop_sublist k s), h.2.sublist (List.drop_sublist k s)⟩
end DL

/-! the first fit; fits are sound and complete; sorted items -/
namespace DL
open PySem PySem.Spec L2
def ffF (store : Sto) : Sto → Nm → Option Nm
  | [], own => some own
  | a :: as, own => store.findSome? fun f => (fitF a f own).bind fun o => ffF store as o
def foldW (store : Sto) (as : Sto) (ways : List Nm) : List Nm := as.foldl (fun w a => growF a w store) ways
def Le (o w : Nm) : Prop := ∀ k v, dlook o k = some v → dlook w k = some v
theorem Le.refl (o : Nm) : Le o o := fun _ _ h => h
theorem Le.trans {a b c : Nm} (h : Le a b) (k : Le b c) : Le a c := fun x v e => k x v (h x v e)
def FitP (o : Nm) (p : Str × Str) : Prop := (freeS p.1 = true → dlook o p.1 = some p.2) ∧ (freeS p.1 = false → p.1 = p.2)
theorem FitP.mono {o w : Nm} {p : Str × Str} (h : FitP o p) (l : Le o w) : FitP w p := ⟨fun q => l _ _ (h.1 q), h.2⟩
def Fit (a f : List Str) (o : Nm) : Prop := a.length = f.length ∧ a.head? = f.head? ∧ ∀ p ∈ (a.drop 1).zip (f.drop 1), FitP o p
theorem Fit.mono {o w : Nm} {a f : List Str} (h : Fit a f o) (l : Le o w) : Fit a f w := ⟨h.1, h.2.1, fun p hp => (h.2.2 p hp).mono l⟩
theorem look_no {α : Type} {l : List (Str × α)} {k : Str} (h : k ∉ l.map (·.1)) : dlook l k = none := by
  cases q : dlook l k with
  | none => rfl
  | some v => exact absurd (List.mem_map.mpr ⟨_, look_mem q, rfl⟩) h
theorem look_app {α : Type} {k x : Str} {v : α} : ∀ {l : List (Str × α)}, k ∉ l.map (·.1) → dlook (l ++ [(k, v)]) x = if x = k then some v else dlook l x
  | [], _ => by
    show (if k = x then some v else none) = _
    by_cases e : x = k
    · rw [if_pos e.symm, if_pos e]
    · rw [if_neg fun z => e z.symm, if_neg e]; rfl
  | p :: l, h => by
    rw [List.map_cons, List.mem_cons, not_or] at h
    show (if p.1 = x then some p.2 else dlook (l ++ [(k, v)]) x) = if x = k then some v else if p.1 = x then some p.2 else dlook l x
    rw [look_app h.2]
    by_cases e : p.1 = x
    · rw [if_pos e, if_pos e, if_neg]
      rintro rfl
      exact h.1 e.symm
    · rw [if_neg e, if_neg e]
theorem look_set {own : Nm} {k v : Str} (h : dget own k v = v) : dlook (dset own k v) k = some v ∧ Le own (dset own k v) := by
  unfold dset
  by_cases q : dhas own k = true
  · rw [if_pos q]
    obtain ⟨w, hw⟩ := look_some (has_iff.mp q)
    unfold dget at h
    rw [hw] at h
    exact ⟨by rw [hw]; exact congrArg some h, Le.refl _⟩
  · have hn : k ∉ own.map (·.1) := fun z => q (has_iff.mpr z)
    rw [if_neg q, put_new hn, look_app hn, if_pos rfl]
    refine ⟨rfl, fun x w e => ?_⟩
    rw [look_app hn, if_neg, e]
    rintro rfl
    rw [look_no hn] at e
    cases e
theorem stepF_sound {own o : Nm} {p : Str × Str} (e : stepF own p = some o) : Le own o ∧ FitP o p := by
  unfold stepF at e
  by_cases hf : freeS p.1 = true
  · rw [if_pos hf] at e
    by_cases hg : dget own p.1 p.2 = p.2
    · rw [if_pos hg] at e
      cases e
      obtain ⟨h1, h2⟩ := look_set hg
      exact ⟨h2, fun _ => h1, fun z => by rw [hf] at z; cases z⟩
    · rw [if_neg hg] at e; cases e
  · rw [if_neg hf] at e
    by_cases hg : p.1 = p.2
    · rw [if_pos hg] at e; cases e
      exact ⟨Le.refl _, fun z => absurd z hf, fun _ => hg⟩
    · rw [if_neg hg] at e; cases e
theorem fitL_sound : ∀ {ps : List (Str × Str)} {own o : Nm}, fitL own ps = some o → Le own o ∧ ∀ p ∈ ps, FitP o p
  | [], own, o, e => by cases e; exact ⟨Le.refl _, fun _ h => by cases h⟩
  | p :: ps, own, o, e => by
    unfold fitL at e
    cases q : stepF own p with
    | none => rw [q] at e; cases e
    | some w =>
      rw [q] at e
      obtain ⟨h1, h2⟩ := stepF_sound q
      obtain ⟨k1, k2⟩ := fitL_sound (show fitL w ps = some o from e)
      refine ⟨h1.trans k1, fun x hx => ?_⟩
      rcases List.mem_cons.mp hx with rfl | hx
      · exact h2.mono k1
      · exact k2 x hx
theorem fitF_sound {a f : List Str} {own o : Nm} (e : fitF a f own = some o) : Le own o ∧ Fit a f o := by
  unfold fitF at e
  by_cases hc : a.length = f.length ∧ a.head? = f.head?
  · rw [if_pos hc] at e
    obtain ⟨h1, h2⟩ := fitL_sound e
    exact ⟨h1, hc.1, hc.2, h2⟩
  · rw [if_neg hc] at e; cases e
theorem fold_sound {store : Sto} : ∀ {as : Sto} {ways : List Nm} {o : Nm}, o ∈ foldW store as ways → ∃ own ∈ ways, Le own o ∧ ∀ a ∈ as, ∃ f ∈ store, Fit a f o
  | [], ways, o, h => ⟨o, h, Le.refl _, fun _ z => by cases z⟩
  | a :: as, ways, o, h => by
    obtain ⟨w, h1, h2, h3⟩ := fold_sound (as := as) (ways := growF a ways store) h
    obtain ⟨own, k1, k2⟩ := List.mem_flatMap.mp h1
    obtain ⟨f, hf, k3⟩ := List.mem_filterMap.mp k2
    obtain ⟨j1, j2⟩ := fitF_sound k3
    refine ⟨own, k1, j1.trans h2, fun x hx => ?_⟩
    rcases List.mem_cons.mp hx with rfl | hx
    · exact ⟨f, hf, j2.mono h2⟩
    · exact h3 x hx
theorem fits_sound {store as : Sto} {own o : Nm} (h : o ∈ fitsF as store own) : Le own o ∧ ∀ a ∈ as, ∃ f ∈ store, Fit a f o := by
  obtain ⟨w, h1, h2⟩ := fold_sound (store := store) (as := as) (ways := [own]) h
  rw [List.mem_singleton.mp h1] at h2
  exact h2
/-- the names of a way -/
def KP (P : Str → Prop) (o : Nm) : Prop := ∀ k ∈ o.map (·.1), P k
theorem stepF_kp {P : Str → Prop} {own o : Nm} {p : Str × Str} (h : KP P own) (hp : freeS p.1 = true → P p.1) (e : stepF own p = some o) : KP P o := by
  unfold stepF at e
  by_cases hf : freeS p.1 = true
  · rw [if_pos hf] at e
    split at e
    · cases e
      intro k hk
      rcases set_keys.mp hk with z | z
      · exact h k z
      · rw [z]; exact hp hf
    · cases e
  · rw [if_neg hf] at e
    split at e
    · cases e; exact h
    · cases e
theorem fitL_kp {P : Str → Prop} : ∀ {ps : List (Str × Str)} {own o : Nm}, KP P own → (∀ p ∈ ps, freeS p.1 = true → P p.1) → fitL own ps = some o → KP P o
  | [], own, o, h, _, e => by cases e; exact h
  | p :: ps, own, o, h, hp, e => by
    unfold fitL at e
    cases q : stepF own p with
    | none => rw [q] at e; cases e
    | some w =>
      rw [q] at e
      exact fitL_kp (stepF_kp h (hp p List.mem_cons_self) q) (fun x hx => hp x (List.mem_cons_of_mem _ hx)) e
theorem fitF_kp {P : Str → Prop} {a f : List Str} {own o : Nm} (h : KP P own) (hp : ∀ t ∈ a.drop 1, freeS t = true → P t) (e : fitF a f own = some o) : KP P o := by
  unfold fitF at e
  split at e
  · exact fitL_kp h (fun p hp2 hf => hp p.1 (List.of_mem_zip hp2).1 hf) e
  · cases e
theorem fold_kp {P : Str → Prop} {store : Sto} : ∀ {as : Sto} {ways : List Nm}, (∀ a ∈ as, ∀ t ∈ a.drop 1, freeS t = true → P t) → (∀ o ∈ ways, KP P o) → ∀ o ∈ foldW store as ways, KP P o
  | [], ways, _, h => h
  | a :: as, ways, hp, h => fold_kp (as := as) (fun x hx => hp x (List.mem_cons_of_mem _ hx)) fun w hw => by
    obtain ⟨own, k1, k2⟩ := List.mem_flatMap.mp hw
    obtain ⟨f, hf, k3⟩ := List.mem_filterMap.mp k2
    exact fitF_kp (h own k1) (hp a List.mem_cons_self) k3
theorem kp_nil (P : Str → Prop) : KP P [] := fun _ h => by cases h
theorem fits_kp {P : Str → Prop} {store as : Sto} {own : Nm} (hp : ∀ a ∈ as, ∀ t ∈ a.drop 1, freeS t = true → P t) (h : KP P own) : ∀ o ∈ fitsF as store own, KP P o :=
  fold_kp hp fun o ho => by rw [List.mem_singleton.mp ho]; exact h
theorem nmf_look {o : Nm} {k v : Str} (h : dlook o k = some v) : nmf o k = v := by unfold nmf dget; rw [h]; rfl
theorem nmf_no {o : Nm} {k : Str} (h : k ∉ o.map (·.1)) : nmf o k = k := get_no h
theorem fitP_nmf {o : Nm} {p : Str × Str} (hk : KP (fun t => freeS t = true) o) (h : FitP o p) : nmf o p.1 = p.2 := by
  by_cases q : freeS p.1 = true
  · exact nmf_look (h.1 q)
  · rw [nmf_no fun z => q (hk _ z)]
    exact h.2 (by simpa using q)
theorem zip_map_eq {g : Str → Str} : ∀ {l m : List Str}, l.length = m.length → (∀ p ∈ l.zip m, g p.1 = p.2) → l.map g = m
  | [], [], _, _ => rfl
  | x :: l, y :: m, hl, h => by
    rw [List.map_cons, h (x, y) List.mem_cons_self, zip_map_eq (by simpa using hl) fun p hp => h p (List.mem_cons_of_mem _ hp)]
theorem Fit.eq {a f : List Str} {o : Nm} (h : Fit a f o) (hk : KP (fun t => freeS t = true) o) : f = chf (nmf o) a := by
  obtain ⟨h1, h2, h3⟩ := h
  cases a with
  | nil => cases f with
    | nil => rfl
    | cons y f => cases h1
  | cons x a => cases f with
    | nil => cases h1
    | cons y f =>
      have e : x = y := by simpa using h2
      subst e
      show _ = x :: a.map (nmf o)
      congr 1
      exact (zip_map_eq (by simpa using h1) fun p hp => fitP_nmf hk (h3 p hp)).symm
/-- completeness -/
def Sat (g : Str → Str) (o : Nm) : Prop := ∀ k v, dlook o k = some v → v = g k
theorem step_sat {g : Str → Str} {own : Nm} {p : Str × Str} (h : Sat g own) (e : p.2 = g p.1) (hn : freeS p.1 = false → g p.1 = p.1) : ∃ o, stepF own p = some o ∧ Sat g o := by
  unfold stepF
  by_cases hf : freeS p.1 = true
  · have hg : dget own p.1 p.2 = p.2 := by
      unfold dget
      cases q : dlook own p.1 with
      | none => rfl
      | some w => rw [e]; exact h _ _ q
    rw [if_pos hf, if_pos hg]
    refine ⟨_, rfl, fun k v hv => ?_⟩
    unfold dset at hv
    by_cases q : dhas own p.1 = true
    · rw [if_pos q] at hv; exact h k v hv
    · have hno : p.1 ∉ own.map (·.1) := fun z => q (has_iff.mpr z)
      rw [if_neg q, put_new hno, look_app hno] at hv
      split at hv
      · rename_i ek; cases hv; rw [ek]; exact e
      · exact h k v hv
  · rw [if_neg hf, if_pos (by rw [e]; exact (hn (by simpa using hf)).symm)]
    exact ⟨own, rfl, h⟩
theorem fitL_sat {g : Str → Str} : ∀ {ps : List (Str × Str)} {own : Nm}, Sat g own → (∀ p ∈ ps, p.2 = g p.1 ∧ (freeS p.1 = false → g p.1 = p.1)) → ∃ o, fitL own ps = some o ∧ Sat g o
  | [], own, h, _ => ⟨own, rfl, h⟩
  | p :: ps, own, h, hp => by
    obtain ⟨w, e, h2⟩ := step_sat h (hp p List.mem_cons_self).1 (hp p List.mem_cons_self).2
    obtain ⟨o, e2, h3⟩ := fitL_sat h2 fun x hx => hp x (List.mem_cons_of_mem _ hx)
    exact ⟨o, by unfold fitL; rw [e]; exact e2, h3⟩
theorem zip_map_mem {g : Str → Str} : ∀ {l : List Str} {p : Str × Str}, p ∈ l.zip (l.map g) → p.1 ∈ l ∧ p.2 = g p.1
  | x :: l, p, h => by
    rw [List.map_cons, List.zip_cons_cons] at h
    rcases List.mem_cons.mp h with rfl | h
    · exact ⟨List.mem_cons_self, rfl⟩
    · obtain ⟨h1, h2⟩ := zip_map_mem h
      exact ⟨List.mem_cons_of_mem _ h1, h2⟩
theorem fitF_sat {g : Str → Str} {own : Nm} {a : List Str} (h : Sat g own) (hn : ∀ t ∈ a.drop 1, freeS t = false → g t = t) : ∃ o, fitF a (chf g a) own = some o ∧ Sat g o := by
  unfold fitF
  rw [if_pos ⟨(chf_len g a).symm, by cases a <;> rfl⟩, chf_drop]
  exact fitL_sat h fun p hp => ⟨(zip_map_mem hp).2, hn p.1 (zip_map_mem hp).1⟩
theorem fold_sat {g : Str → Str} {store : Sto} : ∀ {as : Sto} {ways : List Nm}, (∀ a ∈ as, chf g a ∈ store ∧ ∀ t ∈ a.drop 1, freeS t = false → g t = t) → (∃ own ∈ ways, Sat g own) → ∃ o ∈ foldW store as ways, Sat g o
  | [], ways, _, h => h
  | a :: as, ways, hs, ⟨own, ho, h⟩ => fold_sat (as := as) (fun x hx => hs x (List.mem_cons_of_mem _ hx)) (by
    obtain ⟨h1, h2⟩ := hs a List.mem_cons_self
    obtain ⟨o, e, h3⟩ := fitF_sat h h2
    exact ⟨o, List.mem_flatMap.mpr ⟨own, ho, List.mem_filterMap.mpr ⟨_, h1, e⟩⟩, h3⟩)
theorem sat_nil (g : Str → Str) : Sat g [] := fun _ _ h => by cases h
theorem fits_sat {g : Str → Str} {store as : Sto} (h : ∀ a ∈ as, chf g a ∈ store ∧ ∀ t ∈ a.drop 1, freeS t = false → g t = t) : ∃ o ∈ fitsF as store [], Sat g o :=
  fold_sat h ⟨[], by simp, sat_nil g⟩
/-- sorted items -/
def oePr := OE.pair OE.str OE.str
def itemsF (l : Nm) : Nm := l.mergeSort fun a b => !ltPr ltS ltS b a
theorem items_perm (l : Nm) : (itemsF l).Perm l := List.mergeSort_perm _ _
theorem items_kn {l : Nm} (h : KN l) : KN (itemsF l) := ((items_perm l).map (fun p : Str × Str => p.1)).nodup_iff.mpr h
theorem ltS_leS {a b : Str} : (!ltS b a) = St.leS a b := by
  unfold ltS St.leS
  rw [← decide_not, decide_eq_decide]
  exact List.not_lt
theorem le_prTot (a b : Str × Str) : (!ltPr ltS ltS b a || !ltPr ltS ltS a b) = true := by
  cases h1 : ltPr ltS ltS b a with
  | false => rfl
  | true => cases h2 : ltPr ltS ltS a b with
    | false => rfl
    | true => have := oePr.tr _ _ _ h2 h1; rw [oePr.irr] at this; cases this
theorem le_prTr (a b c : Str × Str) (h1 : (!ltPr ltS ltS b a) = true) (h2 : (!ltPr ltS ltS c b) = true) : (!ltPr ltS ltS c a) = true := by
  cases q : ltPr ltS ltS c a with
  | false => rfl
  | true =>
    rw [Bool.not_eq_true'] at h1 h2
    cases r : ltPr ltS ltS a b with
    | true => rw [oePr.tr _ _ _ q r] at h2; cases h2
    | false =>
      have := oePr.tot _ _ h1 r
      subst this
      rw [q] at h2; cases h2
theorem items_can {l : Nm} (h : KN l) : Can ((itemsF l).map (·.1)) := by
  refine ⟨items_kn h, ?_⟩
  rw [List.pairwise_map]
  refine (List.pairwise_mergeSort le_prTr le_prTot l).imp fun {a b} hab => ?_
  rw [← ltS_leS]
  unfold ltPr at hab
  split at hab
  · rename_i e; rw [e]; show (!ltS a.1 a.1) = true; rw [OE.str.irr]; rfl
  · exact hab
theorem items_names {l : Nm} {ns : List Str} (h : KN l) (hc : Can ns) (e : ∀ x, x ∈ ns ↔ x ∈ l.map (·.1)) : (itemsF l).map (·.1) = ns :=
  (items_can h).eq hc fun x => by rw [e]; exact ((items_perm l).map (·.1)).mem_iff
end DL

/-! stores of words and unknowns -/
namespace DL
open PySem PySem.Spec L2
/-- what the fits ask of atoms and facts -/
def FitOk (a f : List Str) : Prop := a ≠ [] ∧ f ≠ [] ∧ a.length ≤ 9 ∧ f.length ≤ 9 ∧ ∀ t ∈ a, Asc t
def unk7 : Str := Str.ofString "?7"
/-- a word, or an unknown of few common signs -/
def Tv (t : Str) : Prop := IsWord t ∨ (isUnk t = true ∧ Asc t)
theorem Asc.vl {t : Str} (h : Asc t) : Vl t := ⟨strOk_iff.mpr fun c hc => by have := h.2.2 c hc; omega, h.1, h.2.1⟩
theorem Tv.unks {t : Str} (h : t ∈ unks) : Tv t := .inr ⟨(unks_vl h).2, asc_unks h⟩
theorem Tv.asc {t : Str} (h : Tv t) : Asc t := by
  rcases h with h | h
  · exact h.asc
  · exact h.2
theorem Tv.vl {t : Str} (h : Tv t) : Vl t := h.asc.vl
theorem unk_free {t : Str} (h : isUnk t = true) : freeS t = true := by
  unfold isUnk at h
  unfold freeS
  rw [of_decide_eq_true h]
  rfl
theorem word_free {t : Str} (h : IsWord t) : freeS t = false := by
  obtain ⟨c, l, h1, _⟩ := h.asc.head
  unfold freeS
  rw [h1]
  have := h.2.2 c (by rw [h1]; simp)
  show (decide (c = 63) || decide (c ∈ capS)) = false
  rw [decide_eq_false (by omega), decide_eq_false]
  · rfl
  · intro hc
    have : ∀ c ∈ capS, c ≤ 90 := by decide
    have := this c hc
    omega
theorem Tv.free {t : Str} (h : Tv t) : freeS t = isUnk t := by
  rcases h with h | h
  · rw [word_free h, h.unk]
  · rw [h.1, unk_free h.1]
def ascB (s : Str) : Bool := decide (1 ≤ s.length ∧ s.length ≤ 8) && (cpsS s).all fun c => decide (c < 123)
theorem ascB_ok {s : Str} (h : ascB s = true) : Asc s := by
  unfold ascB at h
  rw [Bool.and_eq_true] at h
  have h1 := of_decide_eq_true h.1
  exact ⟨h1.1, h1.2, fun c hc => of_decide_eq_true (List.all_eq_true.mp h.2 c hc)⟩
def wordB (s : Str) : Bool := decide (1 ≤ s.length ∧ s.length ≤ 8) && (cpsS s).all fun c => decide (97 ≤ c ∧ c ≤ 122)
theorem wordB_ok {s : Str} (h : wordB s = true) : IsWord s := by
  unfold wordB at h
  rw [Bool.and_eq_true] at h
  have h1 := of_decide_eq_true h.1
  exact ⟨h1.1, h1.2, fun c hc => of_decide_eq_true (List.all_eq_true.mp h.2 c hc)⟩
def tvB (s : Str) : Bool := wordB s || (isUnk s && ascB s)
theorem tvB_ok {s : Str} (h : tvB s = true) : Tv s := by
  unfold tvB at h
  rw [Bool.or_eq_true, Bool.and_eq_true] at h
  rcases h with h | h
  · exact .inl (wordB_ok h)
  · exact .inr ⟨h.1, ascB_ok h.2⟩
theorem newU_tvB : (List.range 21).all (fun n => (newU n).all tvB) = true := by decide +kernel
theorem newU_tv {n : Nat} (hn : n ≤ 20) {t : Str} (h : t ∈ newU n) : Tv t :=
  tvB_ok (List.all_eq_true.mp (List.all_eq_true.mp newU_tvB n (List.mem_range.mpr (by omega))) t h)
structure Gs (n m : Nat) (s : Sto) : Prop where
  len : s.length ≤ n
  row : ∀ a ∈ s, a ≠ [] ∧ a.length ≤ m ∧ ∀ t ∈ a, Tv t
section
variable {n m n' m' : Nat} {s t : Sto}
theorem Gs.fs (h : Gs n m s) : Fs n m s := ⟨h.len, fun a ha => ⟨(h.row a ha).1, (h.row a ha).2.1, fun t ht => ((h.row a ha).2.2 t ht).vl⟩⟩
theorem Gs.mono (h : Gs n m s) (hn : n ≤ n') (hm : m ≤ m') : Gs n' m' s := ⟨Nat.le_trans h.len hn, fun a ha => ⟨(h.row a ha).1, Nat.le_trans (h.row a ha).2.1 hm, (h.row a ha).2.2⟩⟩
theorem Gs.sub (h : Gs n m s) (hl : t.length ≤ n') (hs : ∀ a ∈ t, a ∈ s) : Gs n' m t := ⟨hl, fun a ha => h.row a (hs a ha)⟩
theorem Gs.val (h : Gs n m s) {v : Str} (hv : v ∈ valsOf s) : Tv v := by
  obtain ⟨a, ha, h2⟩ := mem_vals.mp hv
  exact (h.row a ha).2.2 v (List.mem_of_mem_drop h2)
theorem Gs.renf {f : Str → Str} (h : Gs n m s) (hf : ∀ v ∈ valsOf s, Tv (f v)) : Gs n m (renf f s) := by
  refine ⟨Nat.le_trans (len_srtR _) (by rw [List.length_map]; exact h.len), fun a ha => ?_⟩
  obtain ⟨b, hb, rfl⟩ := mem_renf.mp ha
  obtain ⟨h1, h2, h3⟩ := h.row b hb
  refine ⟨chf_ne h1, by rw [chf_len]; exact h2, fun t ht => ?_⟩
  rcases List.mem_append.mp ht with ht | ht
  · exact h3 t (List.mem_of_mem_take ht)
  · obtain ⟨v, hv, rfl⟩ := List.mem_map.mp ht
    exact hf v (mem_vals.mpr ⟨b, hb, hv⟩)
theorem Gs.fit (h : Gs n m s) (k : Gs n' m' t) (hm : m ≤ 9) (hm' : m' ≤ 9) : ∀ a ∈ s, ∀ f ∈ t, FitOk a f := fun a ha f hf =>
  ⟨(h.row a ha).1, (k.row f hf).1, Nat.le_trans (h.row a ha).2.1 hm, Nat.le_trans (k.row f hf).2.1 hm', fun t ht => ((h.row a ha).2.2 t ht).asc⟩
theorem DFact.gs {kinds : List (Str × Int)} {values : List Str} {as : Sto} (hl : as.length ≤ n) (h : ∀ a ∈ as, DFact kinds values a) (hk : ∀ kd ∈ kinds, IsWord kd.1 ∧ kd.2 ≤ 4) (hv : ∀ t ∈ values, Tv t) : Gs n 5 as := ⟨hl, fun a ha => by
  obtain ⟨kd, h1, ts, rfl, h2, h3⟩ := h a ha
  have := hk kd h1
  refine ⟨by simp, by simp; omega, fun t ht => ?_⟩
  rcases List.mem_cons.mp ht with rfl | ht
  · exact .inl this.1
  · exact hv t (h3 t ht)⟩
end
def leadF (one other : Sto) : Option Nm := (fitsF one other []).head?.map itemsF
theorem way_nil (P : Str → Prop) : Way P 0 [] := ⟨by simp [KN], by simp, fun _ h => by cases h⟩
theorem fold_way {P : Str → Prop} {store : Sto} (hp : ∀ f ∈ store, ∀ v ∈ f.drop 1, P v) : ∀ {as : Sto} {ways : List Nm} {n : Nat}, (∀ a ∈ as, a.length ≤ 9) → (∀ o ∈ ways, Way P n o) → ∀ o ∈ foldW store as ways, Way P (n + as.length * 8) o
  | [], ways, n, _, h => fun o ho => by
    rw [List.length_nil, Nat.zero_mul, Nat.add_zero]
    exact h o ho
  | a :: as, ways, n, ha, h => fun o ho => by
    have := fold_way hp (as := as) (ways := growF a ways store) (n := n + 8) (fun x hx => ha x (List.mem_cons_of_mem _ hx)) (fun w hw => by
      obtain ⟨own, h1, h2, _⟩ := Way.grow h hp w hw
      have := ha a List.mem_cons_self
      exact ⟨h2.kn, by have := h2.len; omega, h2.val⟩) o ho
    rw [List.length_cons, show n + (as.length + 1) * 8 = n + 8 + as.length * 8 by omega]
    exact this
theorem fits_way {P : Str → Prop} {store as : Sto} (hp : ∀ f ∈ store, ∀ v ∈ f.drop 1, P v) (ha : ∀ a ∈ as, a.length ≤ 9) : ∀ o ∈ fitsF as store [], Way P (as.length * 8) o := fun o ho => by
  have := fold_way hp ha (ways := [[]]) (n := 0) (fun o ho => by rw [List.mem_singleton.mp ho]; exact way_nil P) o ho
  rwa [Nat.zero_add] at this
end DL

/-! homs of stores, cores: a core is one alone, up to names -/
namespace DL
open PySem PySem.Spec L2
def Hom (f : Str → Str) (s t : Sto) : Prop := (∀ v, isUnk v = false → f v = v) ∧ ∀ a ∈ s, chf f a ∈ t
section
variable {f g : Str → Str} {s t r : Sto}
theorem Hom.comp (h : Hom f s t) (k : Hom g t r) : Hom (g ∘ f) s r := ⟨fun v hv => by
  show g (f v) = v
  rw [h.1 v hv, k.1 v hv], fun a ha => by rw [← chf_chf]; exact k.2 _ (h.2 a ha)⟩
theorem Hom.sub (h : ∀ a ∈ s, a ∈ t) : Hom id s t := ⟨fun _ _ => rfl, fun a ha => by rw [chf_id (f := id) fun _ _ => rfl]; exact h a ha⟩
theorem Hom.into (h : Hom f s t) (k : ∀ a ∈ t, a ∈ r) : Hom f s r := ⟨h.1, fun a ha => k _ (h.2 a ha)⟩
theorem Hom.ren (h : ∀ v, isUnk v = false → f v = v) : Hom f s (renf f s) := ⟨h, fun a ha => mem_renf.mpr ⟨a, ha, rfl⟩⟩
theorem Hom.vals (h : Hom f s t) {v : Str} (hv : v ∈ valsOf s) : f v ∈ valsOf t := by
  obtain ⟨a, ha, hv⟩ := mem_vals.mp hv
  exact mem_vals.mpr ⟨_, h.2 a ha, by rw [chf_drop]; exact List.mem_map.mpr ⟨v, hv, rfl⟩⟩
def HE (s t : Sto) : Prop := (∃ f, Hom f s t) ∧ ∃ g, Hom g t s
theorem HE.refl (s : Sto) : HE s s := ⟨⟨id, Hom.sub fun _ h => h⟩, id, Hom.sub fun _ h => h⟩
theorem HE.symm (h : HE s t) : HE t s := ⟨h.2, h.1⟩
theorem HE.trans (h : HE s t) (k : HE t r) : HE s r := by
  obtain ⟨⟨f, hf⟩, g, hg⟩ := h
  obtain ⟨⟨f', hf'⟩, g', hg'⟩ := k
  exact ⟨⟨_, hf.comp hf'⟩, _, hg'.comp hg⟩
theorem HE.iso (hs : CanR s) (h : Iso f s) : HE (renf f s) s := ⟨⟨invf f s, by
  have := Hom.ren (s := renf f s) h.back.con
  rwa [h.round hs] at this⟩, f, Hom.ren h.con⟩
/-- onto itself: no fact may be spared -/
def Core (s : Sto) : Prop := ∀ f, Hom f s s → ∀ a ∈ s, ∃ b ∈ s, chf f b = a
theorem surj_inj {l : List Str} (hn : l.Nodup) (hs : ∀ v ∈ l, ∃ u ∈ l, f u = v) : ∀ u ∈ l, ∀ v ∈ l, f u = f v → u = v := fun u hu v hv e => by
  by_cases q : u = v
  · exact q
  · exfalso
    have : l.length ≤ ((l.erase u).map f).length := nodup_le _ _ hn fun w hw => by
      obtain ⟨x, hx, rfl⟩ := hs w hw
      by_cases k : x = u
      · subst k; exact List.mem_map.mpr ⟨v, (List.mem_erase_of_ne fun z => q z.symm).mpr hv, e.symm⟩
      · exact List.mem_map.mpr ⟨x, (List.mem_erase_of_ne k).mpr hx, rfl⟩
    rw [List.length_map, List.length_erase_of_mem hu] at this
    have := List.length_pos_of_mem hu
    omega
theorem Core.injV (hc : Core s) (h : Hom f s s) : ∀ u ∈ valsOf s, ∀ v ∈ valsOf s, f u = f v → u = v := fun u hu v hv => by
  refine surj_inj (l := St.dedupS (valsOf s)) (St.nodup_dedup _) (fun w hw => ?_) u (St.mem_dedup.mpr hu) v (St.mem_dedup.mpr hv)
  obtain ⟨a, ha, hw⟩ := mem_vals.mp (St.mem_dedup.mp hw)
  obtain ⟨b, hb, rfl⟩ := hc f h a ha
  rw [chf_drop] at hw
  obtain ⟨x, hx, rfl⟩ := List.mem_map.mp hw
  exact ⟨x, St.mem_dedup.mpr (mem_vals.mpr ⟨b, hb, hx⟩), rfl⟩
theorem Core.iso {c d : Sto} (hc : Core c) (hd : Core d) (cd : CanR d) (h : Hom f c d) (k : Hom g d c) : Iso f c ∧ renf f c = d := by
  have inj := hc.injV (h.comp k)
  refine ⟨⟨h.1, fun u hu => ?_, fun u hu v hv e => inj u (mem_unk.mp hu).1 v (mem_unk.mp hv).1 (congrArg g e)⟩, (can_renf f c).eq cd fun a => ⟨fun ha => ?_, fun ha => ?_⟩⟩
  · obtain ⟨h1, h2⟩ := mem_unk.mp hu
    cases q : isUnk (f u) with
    | true => rfl
    | false =>
      exfalso
      have e1 : (g ∘ f) u = f u := k.1 _ q
      have e2 : (g ∘ f) (f u) = f u := by show g (f (f u)) = f u; rw [h.1 _ q, k.1 _ q]
      have hw : f u ∈ valsOf c := by rw [← e1]; exact (h.comp k).vals h1
      have := inj u h1 (f u) hw (e1.trans e2.symm)
      rw [← this, h2] at q; cases q
  · obtain ⟨b, hb, rfl⟩ := mem_renf.mp ha
    exact h.2 b hb
  · obtain ⟨b, hb, e⟩ := hd _ (k.comp h) a ha
    rw [← chf_chf] at e
    exact mem_renf.mpr ⟨_, k.2 b hb, e.symm⟩
/-- like cores have one plain form -/
theorem Core.plain {c d : Sto} (hc : Core c) (hd : Core d) (cc : CanR c) (cd : CanR d) (h : HE c d) (hn : (unkOf c).length ≤ 20) : plainF c = plainF d := by
  obtain ⟨⟨f, hf⟩, g, hg⟩ := h
  obtain ⟨h1, h2⟩ := hc.iso hd cd hf hg
  rw [← h2, plain_ren hn cc h1]
end
/-! homs and fits -/
section
variable {n m n' m' : Nat} {s t : Sto}
theorem Gs.hom (h : Gs n m s) {o : Nm} (ho : o ∈ fitsF s t []) : Hom (nmf o) s t := by
  have k := fits_kp (P := fun v => isUnk v = true) (store := t) (fun a ha v hv hf => by
    rw [← ((h.row a ha).2.2 v (List.mem_of_mem_drop hv)).free]; exact hf) (kp_nil _) o ho
  refine ⟨fun v hv => nmf_no fun z => (by rw [k v z] at hv; cases hv), fun a ha => ?_⟩
  obtain ⟨f, hf, ff⟩ := (fits_sound ho).2 a ha
  rw [← ff.eq fun v hv => unk_free (k v hv)]
  exact hf
theorem Gs.fits (h : Gs n m s) {f : Str → Str} (hf : Hom f s t) : ∃ o ∈ fitsF s t [], ∀ v ∈ valsOf s, nmf o v = f v := by
  have ht : ∀ a ∈ s, ∀ v ∈ a.drop 1, Tv v := fun a ha v hv => (h.row a ha).2.2 v (List.mem_of_mem_drop hv)
  obtain ⟨o, ho, sat⟩ := fits_sat (g := f) (store := t) (as := s) fun a ha => ⟨hf.2 a ha, fun v hv q => hf.1 v (by rw [← (ht a ha v hv).free]; exact q)⟩
  have hom := h.hom ho
  refine ⟨o, ho, fun v hv => ?_⟩
  obtain ⟨a, ha, hv⟩ := mem_vals.mp hv
  cases q : isUnk v with
  | false => rw [hom.1 v q, hf.1 v q]
  | true =>
    obtain ⟨b, hb, e1, _, e3⟩ := (fits_sound ho).2 a ha
    obtain ⟨i, hi, rfl⟩ := List.mem_iff_getElem.mp hv
    have hi2 : i < (b.drop 1).length := by rw [List.length_drop] at hi ⊢; omega
    have hz : ((a.drop 1)[i], (b.drop 1)[i]) ∈ (a.drop 1).zip (b.drop 1) := by
      rw [List.mem_iff_getElem]
      exact ⟨i, by rw [List.length_zip]; omega, by simp⟩
    have d := (e3 _ hz).1 (unk_free q)
    rw [nmf_look d]
    exact sat _ _ d
theorem mem_minus {a : List Str} {k : Nat} (hk : k < s.length) (h : a ∈ s) (hn : a ≠ s[k]) : a ∈ s.take k ++ s.drop (k + 1) := by
  have sp : s = s.take k ++ s[k] :: s.drop (k + 1) := by rw [List.getElem_cons_drop, List.take_append_drop]
  rw [sp] at h
  rcases List.mem_append.mp h with h | h
  · exact List.mem_append_left _ h
  · rcases List.mem_cons.mp h with h | h
    · exact absurd h hn
    · exact List.mem_append_right _ h
theorem Gs.core (h : Gs n m s) (hk : ∀ k < s.length, fitsF s (s.take k ++ s.drop (k + 1)) [] = []) : Core s := fun f hf a ha => by
  obtain ⟨k, hkl, rfl⟩ := List.mem_iff_getElem.mp ha
  by_cases q : ∃ b ∈ s, chf f b = s[k]
  · exact q
  · exfalso
    obtain ⟨o, ho, _⟩ := h.fits (t := s.take k ++ s.drop (k + 1)) (f := f) ⟨hf.1, fun b hb => mem_minus hkl (hf.2 b hb) fun e => q ⟨b, hb, e⟩⟩
    rw [hk k hkl] at ho
    cases ho
/-- the program's search -/
def foldingF (s : Sto) : Option Nm := (List.range s.length).findSome? fun k => leadF s (s.take k ++ s.drop (k + 1))
end
end DL

/-! how many ways there are -/
namespace DL
open PySem PySem.Spec L2
def stepK (ks : List Str) (t : Str) : List Str := if freeS t = true ∧ t ∉ ks then ks ++ [t] else ks
def fitK (ks : List Str) (a : List Str) : List Str := (a.drop 1).foldl stepK ks
def allK : Nat → List Str → List (List Str)
  | 0, _ => [[]]
  | k + 1, ws => ws.flatMap fun w => (allK k ws).map (w :: ·)
def keysW (ks : List Str) (as : Sto) : List Str := as.foldl fitK ks
end DL

/-! one store leads into another; stores put together; plain cores -/
namespace DL
open PySem PySem.Spec L2
def Ld (s t : Sto) : Prop := ∃ f, Hom f s t
section
variable {s t r u v : Sto} {l l' : List Sto} {f g : Str → Str}
theorem Ld.refl (s : Sto) : Ld s s := ⟨id, Hom.sub fun _ h => h⟩
theorem Ld.trans (h : Ld s t) (k : Ld t r) : Ld s r := by
  obtain ⟨f, hf⟩ := h
  obtain ⟨g, hg⟩ := k
  exact ⟨_, hf.comp hg⟩
theorem Ld.sub (h : ∀ a ∈ s, a ∈ t) : Ld s t := ⟨id, Hom.sub h⟩
theorem Ld.nil (t : Sto) : Ld [] t := Ld.sub fun _ h => by cases h
/-- the least store into which all of some lead -/
structure Join (l : List Sto) (u : Sto) : Prop where
  up : ∀ s ∈ l, Ld s u
  least : ∀ r, (∀ s ∈ l, Ld s r) → Ld u r
theorem Join.he (h : Join l u) (k : Join l' v) (e : ∀ s ∈ l, Ld s v) (e' : ∀ s ∈ l', Ld s u) : HE u v := ⟨h.least v e, k.least u e'⟩
theorem Join.ren (h : Join l' u) (k : ∀ s ∈ l, ∃ t ∈ l', HE s t) (k' : ∀ t ∈ l', ∃ s ∈ l, HE s t) : Join l u where
  up := fun s hs => by
    obtain ⟨t, ht, q⟩ := k s hs
    exact Ld.trans q.1 (h.up t ht)
  least := fun r hr => h.least r fun t ht => by
    obtain ⟨s, hs, q⟩ := k' t ht
    exact Ld.trans q.2 (hr s hs)
/-- no common unknowns -/
def Apt (s t : Sto) : Prop := ∀ v ∈ unkOf s, v ∉ unkOf t
/-! plain cores -/
structure PC (d : Sto) : Prop where
  can : CanR d
  core : Core d
  plain : plainF d = d
theorem PC.eq (h : PC s) (k : PC t) (q : HE s t) (hn : (unkOf s).length ≤ 20) : s = t := by
  rw [← h.plain, ← k.plain]
  exact h.core.plain k.core h.can k.can q hn
theorem Gs.plain {n m : Nat} (h : Gs n m s) (hn : (unkOf s).length ≤ 20) : Gs n m (plainF s) := by
  obtain ⟨p, pi, pn, pe⟩ := plain_iso hn
  rw [pe]
  refine h.renf fun v hv => ?_
  cases q : isUnk v with
  | true => exact newU_tv hn (pn v (mem_unk.mpr ⟨hv, q⟩))
  | false => rw [pi.con v q]; exact h.val hv
end
end DL

/-! words and unknowns as they are judged -/
namespace DL
open PySem PySem.Spec L2
def digS : List Nat := [48, 49, 50, 51, 52, 53, 54, 55, 56, 57]
def lowS : List Nat := [97, 98, 99, 100, 101, 102, 103, 104, 105, 106, 107, 108, 109, 110, 111, 112, 113, 114, 115, 116, 117, 118, 119, 120, 121, 122]
theorem mem_digS {c : Nat} : c ∈ digS ↔ 48 ≤ c ∧ c ≤ 57 := by
  unfold digS
  simp only [List.mem_cons, List.not_mem_nil, or_false]
  omega
def unkB (t : Str) : Bool := decide (2 ≤ t.length ∧ t.length ≤ 6) && (decide ((cpsS t)[0]? = some 63) && (!decide ((cpsS t)[1]? = some 48) && ((cpsS t).drop 1).all fun c => decide (c ∈ digS)))
def svB (t : Str) : Bool := wordB t || unkB t
theorem unkB_unk {t : Str} (h : unkB t = true) : isUnk t = true ∧ Asc t := by
  unfold unkB at h
  simp only [Bool.and_eq_true, decide_eq_true_eq, List.all_eq_true] at h
  obtain ⟨⟨h1, h2⟩, h3, _, h5⟩ := h
  refine ⟨?_, by omega, by omega, fun c hc => ?_⟩
  · unfold isUnk
    rw [decide_eq_true_eq, List.head?_eq_getElem?]; exact h3
  · cases q : cpsS t with
    | nil => rw [q] at hc; cases hc
    | cons x l =>
      rw [q] at hc h3 h5
      rcases List.mem_cons.mp hc with e | hc
      · have : x = 63 := by simpa using h3
        omega
      · have := mem_digS.mp (h5 c (by simpa using hc))
        omega
end DL

namespace DL
open PySem PySem.Spec L2
/-- the first two, one ahead of the other, that meet a test -/
def pairF {α : Type} (t : α → α → Bool) : List α → Option (α × α)
  | [] => none
  | a :: r => match r.find? (t a) with
    | some b => some (a, b)
    | none => pairF t r
/-! the facts that have to come -/
def newOf (r : Rule') : List Str := (varsOf r.2).filter fun v => !decide (v ∈ varsOf r.1)
/-- a rule as it is drawn -/
structure RuleOk (r : Rule') : Prop where
  b3 : r.1.length ≤ 3
  h3 : r.2.length ≤ 3
  at_ : ∀ a ∈ r.1 ++ r.2, ∃ n ts, a = n :: ts ∧ ts.length ≤ 4 ∧ IsWord n ∧ ∀ t ∈ ts, IsWord t ∨ isVarS t = true
  new2 : (newOf r).length ≤ 2
def unkT (i : Int) : Str := Str.ofString "?" ++ Str.ofString (toString i)
def nameF (new : List Str) (st : Int × Nm) : Int × Nm := new.foldl (fun st v => (st.1 + 1, dput st.2 v (unkT (st.1 + 1)))) st
def comeW (r : Rule') (st : Sto × Int) (o : Nm) : Sto × Int := (st.1 ++ Rs.srtR (r.2.map (chF (nameF (newOf r) (st.2, o)).2)), (nameF (newOf r) (st.2, o)).1)
def comeR (src : Sto) (st : Sto × Int) (r : Rule') : Sto × Int := (fitsF r.1 src []).foldl (comeW r) st
def comeF (b : Book') (src : Sto) : Sto × Int := (Rs.srtR (b.1.foldl (comeR src) ([], 0)).1, (b.1.foldl (comeR src) ([], 0)).2)
theorem RuleOk.asc {r : Rule'} (h : RuleOk r) {a : List Str} (ha : a ∈ r.1 ++ r.2) : a ≠ [] ∧ a.length ≤ 5 ∧ ∀ t ∈ a, Asc t := by
  obtain ⟨n, ts, rfl, h1, h2, h3⟩ := h.at_ a ha
  refine ⟨by simp, by simp; omega, fun t ht => ?_⟩
  rcases List.mem_cons.mp ht with rfl | ht
  · exact h2.asc
  · exact (h3 t ht).elim IsWord.asc asc_var
theorem RuleOk.rows {r : Rule'} (h : RuleOk r) : Rows 100 40 1000 r.1 ∧ Rows 100 40 1000 r.2 :=
  ⟨⟨by have := h.b3; omega, fun a ha => by obtain ⟨_, h2, h3⟩ := h.asc (List.mem_append_left _ ha); exact ⟨by omega, fun t ht => by have := (h3 t ht).2.1; omega⟩⟩,
   ⟨by have := h.h3; omega, fun a ha => by obtain ⟨_, h2, h3⟩ := h.asc (List.mem_append_right _ ha); exact ⟨by omega, fun t ht => by have := (h3 t ht).2.1; omega⟩⟩⟩
theorem RuleOk.fit {r : Rule'} (h : RuleOk r) {a f : List Str} (ha : a ∈ r.1 ++ r.2) {n : Nat} {s : Sto} (hs : Fs n 9 s) (hf : f ∈ s) : FitOk a f := by
  obtain ⟨h1, h2, h3⟩ := h.asc ha
  obtain ⟨k1, k2, _⟩ := hs.2 f hf
  exact ⟨h1, k1, by omega, k2, h3⟩
theorem unkT_ok : (List.range 1100).all (fun n : Nat => decide (unkB (unkT ((n + 1 : Nat) : Int)) = true)) = true := by decide +kernel
theorem unkT_unk {i : Int} (h0 : 1 ≤ i) (h : i ≤ 1100) : unkB (unkT i) = true := by
  obtain ⟨n, rfl⟩ : ∃ n : Nat, i = ((n + 1 : Nat) : Int) := ⟨(i - 1).toNat, by omega⟩
  exact of_decide_eq_true (List.all_eq_true.mp unkT_ok n (List.mem_range.mpr (by omega)))
end DL

namespace DL
open PySem PySem.Spec L2
theorem dput_keys {α : Type} {l : List (Str × α)} {k x : Str} {v : α} : x ∈ (dput l k v).map (·.1) ↔ x ∈ l.map (·.1) ∨ x = k := by
  unfold dput
  split
  · rename_i h
    have e : (l.map fun p => if p.1 = k then (p.1, v) else p).map (·.1) = l.map (·.1) := by
      rw [List.map_map]
      refine List.map_congr_left fun p _ => ?_
      dsimp only [Function.comp]
      split <;> rfl
    rw [e]
    refine ⟨.inl, fun q => q.elim id fun q => ?_⟩
    rw [q]
    exact has_iff.mp h
  · simp
theorem nameF_cons (v : Str) (new : List Str) (m : Int) (o : Nm) : nameF (v :: new) (m, o) = nameF new (m + 1, dput o v (unkT (m + 1))) := rfl
theorem nameF_1 : ∀ (new : List Str) (m : Int) (o : Nm), (nameF new (m, o)).1 = m + new.length
  | [], m, o => by simp [nameF]
  | v :: new, m, o => by rw [nameF_cons, nameF_1 new]; simp; omega
theorem nameF_keys : ∀ (new : List Str) (m : Int) (o : Nm) (x : Str), x ∈ (nameF new (m, o)).2.map (·.1) ↔ x ∈ o.map (·.1) ∨ x ∈ new
  | [], m, o, x => by simp [nameF]
  | v :: new, m, o, x => by
    rw [nameF_cons, nameF_keys new, dput_keys, List.mem_cons]
    constructor
    · rintro ((h | h) | h)
      · exact .inl h
      · exact .inr (.inl h)
      · exact .inr (.inr h)
    · rintro (h | h | h)
      · exact .inl (.inl h)
      · exact .inl (.inr h)
      · exact .inr h
theorem nameF_val : ∀ (new : List Str) (m : Int) (o : Nm), ∀ p ∈ (nameF new (m, o)).2, p ∈ o ∨ ∃ i, m < i ∧ i ≤ m + new.length ∧ p.2 = unkT i
  | [], m, o, p, h => .inl h
  | v :: new, m, o, p, h => by
    rw [nameF_cons] at h
    rcases nameF_val new _ _ p h with h | ⟨i, h1, h2, h3⟩
    · rcases put_mem h with h | h
      · exact .inl h
      · exact .inr ⟨m + 1, by omega, by simp; omega, by rw [h]⟩
    · exact .inr ⟨i, by omega, by simp; omega, h3⟩
/-- a value that comes -/
def CV (Q : Str → Prop) (m : Int) (v : Str) : Prop := Q v ∨ IsWord v ∨ ∃ i, 1 ≤ i ∧ i ≤ m ∧ v = unkT i
theorem CV.mono {Q : Str → Prop} {m m' : Int} {v : Str} (h : CV Q m v) (hm : m ≤ m') : CV Q m' v := h.imp id fun h => h.imp id fun ⟨i, a, b, c⟩ => ⟨i, a, by omega, c⟩
/-- a fact that comes by a rule -/
def CF (Q : Str → Prop) (m : Int) (r : Rule') (f : List Str) : Prop := ∃ a ∈ r.2, f.length = a.length ∧ f.head? = a.head? ∧ ∀ v ∈ f.drop 1, CV Q m v
theorem CF.mono {Q : Str → Prop} {m m' : Int} {r : Rule'} {f : List Str} (h : CF Q m r f) (hm : m ≤ m') : CF Q m' r f := by
  obtain ⟨a, h1, h2, h3, h4⟩ := h
  exact ⟨a, h1, h2, h3, fun v hv => (h4 v hv).mono hm⟩
theorem var_free {t : Str} (h : isVarS t = true) : freeS t = true := by
  obtain ⟨c, h1, h2, rfl⟩ := isVarS_iff.mp h
  unfold freeS
  rw [show cpsS (mkS [c]) = [c] from rfl]
  simp [capS]
  omega
/-- the head with the names of a way put in -/
theorem come_cf {Q : Str → Prop} {r : Rule'} (hr : RuleOk r) {o : Nm} {n : Nat} {m : Int} (hm : 0 ≤ m) (hw : Way Q n o) (hk : ∀ a ∈ r.1, ∀ t ∈ a.drop 1, freeS t = true → t ∈ o.map (·.1)) {f : List Str} (hf : f ∈ r.2.map (chF (nameF (newOf r) (m, o)).2)) : CF Q (m + (newOf r).length) r f := by
  obtain ⟨a, ha, rfl⟩ := List.mem_map.mp hf
  obtain ⟨x, ts, rfl, h1, h2, h3⟩ := hr.at_ a (List.mem_append_right _ ha)
  refine ⟨_, ha, chF_len _ _, rfl, fun v hv => ?_⟩
  have hv : v ∈ ts.map fun v => dget (nameF (newOf r) (m, o)).2 v v := hv
  obtain ⟨t, ht, rfl⟩ := List.mem_map.mp hv
  rcases get_mem (l := (nameF (newOf r) (m, o)).2) (k := t) (z := t) with e | e
  · rw [e]
    rcases h3 t ht with w | w
    · exact .inr (.inl w)
    · -- a variable is a key
      have kt : t ∈ (nameF (newOf r) (m, o)).2.map (·.1) := by
        rw [nameF_keys]
        have hv2 : t ∈ varsOf r.2 := mem_varsOf.mpr ⟨w, _, ha, ht⟩
        by_cases q : t ∈ varsOf r.1
        · left
          obtain ⟨_, b, hb, hb2⟩ := mem_varsOf.mp q
          exact hk b hb t hb2 (var_free w)
        · exact .inr (List.mem_filter.mpr ⟨hv2, by simpa using q⟩)
      obtain ⟨u, hu⟩ := look_some kt
      have : dget (nameF (newOf r) (m, o)).2 t t = u := by unfold dget; rw [hu]; rfl
      rw [e] at this
      have hm2 := look_mem hu
      rw [← this] at hm2
      rcases nameF_val _ _ _ _ hm2 with z | ⟨i, z1, z2, z3⟩
      · exact .inl (hw.val _ z)
      · exact .inr (.inr ⟨i, by omega, z2, z3⟩)
  · rcases nameF_val _ _ _ _ e with z | ⟨i, z1, z2, z3⟩
    · exact .inl (hw.val _ z)
    · exact .inr (.inr ⟨i, by omega, z2, z3⟩)
theorem CV.vl {Q : Str → Prop} (hQ : ∀ v, Q v → Vl v) {m : Int} (hm : m ≤ 1100) {v : Str} (h : CV Q m v) : Vl v := by
  rcases h with h | h | ⟨i, h1, h2, rfl⟩
  · exact hQ v h
  · exact h.vl
  · exact (unkB_unk (unkT_unk h1 (by omega))).2.vl
theorem CF.fs {Q : Str → Prop} (hQ : ∀ v, Q v → Vl v) {m : Int} (hm : m ≤ 1100) {r : Rule'} (hr : RuleOk r) {f : List Str} (h : CF Q m r f) : f ≠ [] ∧ f.length ≤ 5 ∧ ∀ t ∈ f, Vl t := by
  obtain ⟨a, h1, h2, h3, h4⟩ := h
  obtain ⟨x, ts, rfl, k1, k2, k3⟩ := hr.at_ a (List.mem_append_right _ h1)
  cases f with
  | nil => simp at h2
  | cons y ys =>
    simp at h2 h3
    refine ⟨by simp, by simp; omega, fun t ht => ?_⟩
    rcases List.mem_cons.mp ht with rfl | ht
    · rw [h3]; exact k2.vl
    · exact (h4 t ht).vl hQ hm
/-- what holds behind n ways -/
structure ComeI (Q : Str → Prop) (rs : List Rule') (n : Nat) (st : Sto × Int) : Prop where
  m0 : 0 ≤ st.2
  m1 : st.2 ≤ 2 * n
  len : st.1.length ≤ 3 * n
  cf : ∀ f ∈ st.1, ∃ r ∈ rs, CF Q st.2 r f
theorem ComeI.mono {Q : Str → Prop} {rs : List Rule'} {n n' : Nat} {st : Sto × Int} (h : ComeI Q rs n st) (hn : n ≤ n') : ComeI Q rs n' st := ⟨h.m0, by have := h.m1; omega, by have := h.len; omega, h.cf⟩
theorem ComeI.step {Q : Str → Prop} {rs : List Rule'} {n w : Nat} {st : Sto × Int} (h : ComeI Q rs n st) {r : Rule'} (hr : RuleOk r) (hrs : r ∈ rs) {o : Nm} (hw : Way Q w o) (hk : ∀ a ∈ r.1, ∀ t ∈ a.drop 1, freeS t = true → t ∈ o.map (·.1)) : ComeI Q rs (n + 1) (comeW r st o) := by
  have e1 := nameF_1 (newOf r) st.2 o
  have e2 := hr.new2
  have := h.m0; have := h.m1; have := h.len; have := hr.h3
  refine ⟨?_, ?_, ?_, fun f hf => ?_⟩
  · show 0 ≤ (nameF (newOf r) (st.2, o)).1; omega
  · show (nameF (newOf r) (st.2, o)).1 ≤ _; omega
  · show (st.1 ++ Rs.srtR (r.2.map (chF (nameF (newOf r) (st.2, o)).2))).length ≤ _
    have l1 := len_srtR (r.2.map (chF (nameF (newOf r) (st.2, o)).2))
    rw [List.length_append]
    rw [List.length_map] at l1
    omega
  · have ef : (comeW r st o).2 = st.2 + (newOf r).length := e1
    rw [ef]
    rcases List.mem_append.mp hf with hf | hf
    · obtain ⟨r', h1, h2⟩ := h.cf f hf
      exact ⟨r', h1, h2.mono (by omega)⟩
    · exact ⟨r, hrs, come_cf hr h.m0 hw hk (mem_srtR.mp hf)⟩
/-- how many ways a rule may have, by the number of rules -/
def wmax (n : Nat) : Nat := if n ≤ 2 then 128 else if n ≤ 4 then 64 else 32
/-- a source to which the rules may be put -/
structure SrcOk (Q : Str → Prop) (rs : List Rule') (src : Sto) : Prop where
  fs : Fs 8 5 src
  q : ∀ f ∈ src, ∀ v ∈ f.drop 1, Q v
  vl : ∀ v, Q v → Vl v
  pw : ∀ r ∈ rs, (fitsF r.1 src []).length ≤ wmax rs.length
end DL

namespace DL
open PySem PySem.Spec L2
/-! what is broken first -/
def agB (cs : List Int) (f g : List Str) : Bool := cs.all fun c => decide (f[(c + 1).toNat]? = g[(c + 1).toNat]?)
def unkeptF (k : Key') (s : Sto) : Option (List Str × List Str) := pairF (agB k.2) (s.filter fun f => decide (f.head? = some k.1))
def lateF (r : Rule') (src s : Sto) : List Nm := ((fitsF r.1 src []).filter fun o => (ffF s r.2 o).isNone).map itemsF
def ltNm : Nm → Nm → Bool := lexB (ltPr ltS ltS)
def leastP : List Nm → Option Nm
  | [] => none
  | x :: xs => some (minT ltNm x xs)
def ruleF (b : Book') (src s : Sto) : Option (Int × Nm) := (enum b.1).findSome? fun p => (leastP (lateF p.2 src s)).map fun q => (p.1, q)
def keyF (b : Book') (s : Sto) : Option (Int × List Str × List Str) := (enum b.2).findSome? fun p => (unkeptF p.2 s).map fun q => (p.1, q)
def eRule : (Str × Int × Nm) → D := eP3 D.str D.int (eT (eP D.str D.str))
def eKey : (Str × Int × List Str × List Str) → D := eP4 D.str D.int (eT D.str) (eT D.str)
def brokenF (b : Book') (src s : Sto) : D := match ruleF b src s with
  | some (i, p) => eRule (Str.ofString "rule", i, p)
  | none => match keyF b s with
    | some (i, f, g) => eKey (Str.ofString "key", i, f, g)
    | none => .non
/-- the columns that a key speaks of are there -/
def KeyAt (k : Key') (s : Sto) : Prop := ∀ f ∈ s, f.head? = some k.1 → ∀ c ∈ k.2, 0 ≤ c ∧ c + 1 < f.length
/-- what is asked of a book, a source and a store for broken -/
structure BrkOk (Q : Str → Prop) (b : Book') (src s : Sto) : Prop where
  ro : ∀ r ∈ b.1, RuleOk r
  so : SrcOk Q b.1 src
  fs : ∃ n, n ≤ 1000 ∧ Fs n 9 s
  ky : ∀ k ∈ b.2, KeyAt k s ∧ k.2.length ≤ 1000
  lr : b.1.length ≤ 1000
  lk : b.2.length ≤ 1000
end DL

namespace DL
open PySem PySem.Spec L2
/-! the facts that come, whatever the order of the new unknowns -/
theorem unkT_cps (i : Int) : cpsS (unkT i) = 63 :: cpsS (Str.ofString (toString i)) := by
  unfold unkT
  rw [cps_app, q63]; rfl
theorem unkT_isUnk (i : Int) : isUnk (unkT i) = true := by
  unfold isUnk
  rw [unkT_cps]; simp
theorem unkT_inj {i j : Int} (hi : 0 ≤ i ∧ i < 10 ^ 10) (hj : 0 ≤ j ∧ j < 10 ^ 10) (e : unkT i = unkT j) : i = j := by
  have h := congrArg cpsS e
  rw [unkT_cps, unkT_cps] at h
  have h2 := cps_inj (List.cons.inj h).2
  have a := PySem.W.KIN.num_reads hi.1 hi.2
  rw [h2, PySem.W.KIN.num_reads hj.1 hj.2] at a
  exact (Option.some.inj a).symm
/-- names numbered from m on -/
def mkN : Int → List Str → Nm
  | _, [] => []
  | m, v :: l => (v, unkT (m + 1)) :: mkN (m + 1) l
theorem mkN_keys : ∀ (l : List Str) (m : Int), (mkN m l).map (·.1) = l
  | [], _ => rfl
  | v :: l, m => by rw [mkN, List.map_cons, mkN_keys l]
theorem mkN_len (l : List Str) (m : Int) : (mkN m l).length = l.length := by
  have := congrArg List.length (mkN_keys l m)
  rwa [List.length_map] at this
theorem mkN_app : ∀ (l : List Str) (m : Int) (v : Str), mkN m (l ++ [v]) = mkN m l ++ [(v, unkT (m + l.length + 1))]
  | [], m, v => by simp [mkN]
  | x :: l, m, v => by
    rw [List.cons_append, mkN, mkN_app l, mkN, List.cons_append, List.length_cons]
    rw [show m + 1 + (l.length : Int) + 1 = m + ((l.length + 1 : Nat) : Int) + 1 by omega]
theorem mkN_look : ∀ (l : List Str) (m : Int) {v : Str}, l.Nodup → v ∈ l → ∃ j : Nat, j < l.length ∧ l[j]? = some v ∧ dlook (mkN m l) v = some (unkT (m + j + 1))
  | x :: l, m, v, hn, h => by
    rw [List.nodup_cons] at hn
    by_cases e : x = v
    · subst e
      exact ⟨0, by simp, rfl, by simp [mkN, dlook]⟩
    · obtain ⟨j, h1, h2, h3⟩ := mkN_look l (m + 1) hn.2 ((List.mem_cons.mp h).resolve_left (Ne.symm e))
      refine ⟨j + 1, by simp; omega, h2, ?_⟩
      rw [mkN]
      unfold dlook
      rw [if_neg e, h3, show m + 1 + (j : Int) + 1 = m + ((j + 1 : Nat) : Int) + 1 by omega]
theorem look_app2 {α : Type} {k : Str} : ∀ {l m : List (Str × α)}, dlook (l ++ m) k = (dlook l k).orElse fun _ => dlook m k
  | [], m => rfl
  | p :: l, m => by
    show (if p.1 = k then some p.2 else dlook (l ++ m) k) = (if p.1 = k then some p.2 else dlook l k).orElse fun _ => dlook m k
    by_cases h : p.1 = k
    · rw [if_pos h, if_pos h]; rfl
    · rw [if_neg h, if_neg h]
      exact look_app2
theorem nameF_eq : ∀ (new : List Str) (m : Int) (o : Nm), new.Nodup → (∀ v ∈ new, v ∉ o.map (·.1)) → nameF new (m, o) = (m + new.length, o ++ mkN m new)
  | [], m, o, _, _ => by simp [nameF, mkN]
  | v :: new, m, o, hn, hd => by
    rw [List.nodup_cons] at hn
    rw [nameF_cons, put_new (hd v List.mem_cons_self), nameF_eq new (m + 1) _ hn.2 fun w hw z => ?_, mkN, List.append_assoc]
    · simp; omega
    · rw [List.map_append, List.mem_append] at z
      rcases z with z | z
      · exact hd w (List.mem_cons_of_mem _ hw) z
      · simp at z
        exact hn.1 (z ▸ hw)
/-- the names invented in the order of their coming -/
def stepI (n0 : Nat) (m : Int) (own : Nm) (t : Str) : Nm := if freeS t = true ∧ dhas own t = false then dput own t (unkT (m + own.length - n0 + 1)) else own
def invF (r : Rule') (o : Nm) (m : Int) : Nm := (r.2.flatMap (·.drop 1)).foldl (stepI o.length m) o
/-- new ones of a list of terms, in the order of their coming -/
def newL (ks : List Str) : List Str → List Str → List Str
  | l, [] => l
  | l, t :: ts => newL ks (if freeS t = true ∧ t ∉ ks ∧ t ∉ l then l ++ [t] else l) ts
theorem invF_eq (o : Nm) (m : Int) : ∀ (ts l : List Str), ts.foldl (stepI o.length m) (o ++ mkN m l) = o ++ mkN m (newL (o.map (·.1)) l ts)
  | [], l => rfl
  | t :: ts, l => by
    rw [List.foldl_cons, newL]
    have e : stepI o.length m (o ++ mkN m l) t = o ++ mkN m (if freeS t = true ∧ t ∉ o.map (·.1) ∧ t ∉ l then l ++ [t] else l) := by
      unfold stepI
      have hk : (dhas (o ++ mkN m l) t = false) ↔ (t ∉ o.map (·.1) ∧ t ∉ l) := by
        rw [← Bool.not_eq_true, has_iff, List.map_append, mkN_keys, List.mem_append, not_or]
      by_cases c : freeS t = true ∧ t ∉ o.map (·.1) ∧ t ∉ l
      · rw [if_pos c, if_pos ⟨c.1, hk.mpr c.2⟩, put_new (by rw [List.map_append, mkN_keys, List.mem_append, not_or]; exact c.2), List.length_append, mkN_len, mkN_app, List.append_assoc]
        rw [show m + ((o.length + l.length : Nat) : Int) - (o.length : Int) + 1 = m + (l.length : Int) + 1 by omega]
      · rw [if_neg c, if_neg fun z => c ⟨z.1, hk.mp z.2⟩]
    rw [e, invF_eq o m ts]
theorem newL_mem {ks : List Str} : ∀ {ts l : List Str} {v : Str}, v ∈ newL ks l ts ↔ v ∈ l ∨ (v ∈ ts ∧ freeS v = true ∧ v ∉ ks)
  | [], l, v => by simp [newL]
  | t :: ts, l, v => by
    rw [newL, newL_mem (ts := ts)]
    by_cases c : freeS t = true ∧ t ∉ ks ∧ t ∉ l
    · rw [if_pos c, List.mem_append, List.mem_singleton, List.mem_cons]
      constructor
      · rintro ((h | h) | h)
        · exact .inl h
        · subst h; exact .inr ⟨.inl rfl, c.1, c.2.1⟩
        · exact .inr ⟨.inr h.1, h.2⟩
      · rintro (h | ⟨h | h, h2⟩)
        · exact .inl (.inl h)
        · exact .inl (.inr h)
        · exact .inr ⟨h, h2⟩
    · rw [if_neg c, List.mem_cons]
      constructor
      · rintro (h | h)
        · exact .inl h
        · exact .inr ⟨.inr h.1, h.2⟩
      · rintro (h | ⟨h | h, h2⟩)
        · exact .inl h
        · subst h
          by_cases q : v ∈ l
          · exact .inl q
          · exact absurd ⟨h2.1, h2.2, q⟩ c
        · exact .inr ⟨h, h2⟩
theorem newL_nodup {ks : List Str} : ∀ {ts l : List Str}, l.Nodup → (newL ks l ts).Nodup
  | [], l, h => h
  | t :: ts, l, h => by
    rw [newL]
    refine newL_nodup ?_
    split
    · rename_i c
      rw [List.nodup_append]
      exact ⟨h, by simp, fun a ha b hb e => by rw [List.mem_singleton.mp hb] at e; exact c.2.2 (e ▸ ha)⟩
    · exact h
/-! ways and namings -/
abbrev Wy := Rule' × Nm
def waysF (b : Book') (src : Sto) : List Wy := b.1.flatMap fun r => (fitsF r.1 src []).map fun o => (r, o)
/-- a way, whatever its values are -/
structure WyB (p : Wy) : Prop where
  ro : RuleOk p.1
  key : ∀ k, k ∈ p.2.map (·.1) ↔ k ∈ varsOf p.1.1
  kn : KN p.2
/-- a way that is one -/
structure WyOk (p : Wy) : Prop extends WyB p where
  con : ∀ q ∈ p.2, isUnk q.2 = false
def NewV (W : List Wy) (i : Nat) (v : Str) : Prop := ∃ p, W[i]? = some p ∧ v ∈ newOf p.1
structure Nam (W : List Wy) (ν : Nat → Str → Str) : Prop where
  ext : ∀ i p, W[i]? = some p → ∀ k v, dlook p.2 k = some v → ν i k = v
  unk : ∀ i v, NewV W i v → isUnk (ν i v) = true
  inj : ∀ i j u v, NewV W i u → NewV W j v → ν i u = ν j v → i = j ∧ u = v
  wrd : ∀ i t, (∃ p, W[i]? = some p) → IsWord t → ν i t = t
/-- the facts by a naming -/
def Cset (W : List Wy) (ν : Nat → Str → Str) (a : List Str) : Prop := ∃ i p, W[i]? = some p ∧ ∃ b ∈ p.1.2, a = chf (ν i) b
/-- a term of a head -/
theorem head_term {p : Wy} (h : WyB p) {b : List Str} (hb : b ∈ p.1.2) {t : Str} (ht : t ∈ b.drop 1) : IsWord t ∨ (∃ v, dlook p.2 t = some v) ∨ t ∈ newOf p.1 := by
  obtain ⟨n, ts, rfl, h1, h2, h3⟩ := h.ro.at_ b (List.mem_append_right _ hb)
  rcases h3 t ht with w | w
  · exact .inl w
  · right
    by_cases q : t ∈ varsOf p.1.1
    · exact .inl (look_some ((h.key t).mpr q))
    · exact .inr (List.mem_filter.mpr ⟨mem_varsOf.mpr ⟨w, _, hb, ht⟩, by simpa using q⟩)
noncomputable def mkF (W : List Wy) (ν g : Nat → Str → Str) (x : Str) : Str :=
  open Classical in if h : ∃ p : Nat × Str, NewV W p.1 p.2 ∧ ν p.1 p.2 = x then g h.choose.1 h.choose.2 else x
theorem mkF_new {W : List Wy} {ν g : Nat → Str → Str} (N : Nam W ν) {i : Nat} {v : Str} (h : NewV W i v) : mkF W ν g (ν i v) = g i v := by
  have hx : ∃ p : Nat × Str, NewV W p.1 p.2 ∧ ν p.1 p.2 = ν i v := ⟨(i, v), h, rfl⟩
  unfold mkF
  rw [dif_pos hx]
  obtain ⟨e1, e2⟩ := N.inj _ _ _ _ hx.choose_spec.1 h hx.choose_spec.2
  rw [e1, e2]
theorem mkF_con {W : List Wy} {ν g : Nat → Str → Str} (N : Nam W ν) {x : Str} (h : isUnk x = false) : mkF W ν g x = x := by
  unfold mkF
  rw [dif_neg]
  rintro ⟨p, h1, h2⟩
  have := N.unk _ _ h1
  rw [h2, h] at this; cases this
/-- what agrees with the ways is led to from the facts that come -/
theorem mkF_row {W : List Wy} {ν g : Nat → Str → Str} (hW : ∀ p ∈ W, WyOk p) (N : Nam W ν) (ext : ∀ i p, W[i]? = some p → ∀ k v, dlook p.2 k = some v → g i k = v) (wrd : ∀ i t, (∃ p, W[i]? = some p) → IsWord t → g i t = t) {i : Nat} {p : Wy} (hp : W[i]? = some p) {b : List Str} (hb : b ∈ p.1.2) :
    chf (mkF W ν g) (chf (ν i) b) = chf (g i) b := by
  have h := hW p (List.mem_of_getElem? hp)
  rw [chf_chf]
  refine chf_congr fun t ht => ?_
  show mkF W ν g (ν i t) = g i t
  rcases head_term h.toWyB hb ht with w | ⟨v, hv⟩ | n
  · rw [N.wrd i t ⟨p, hp⟩ w, mkF_con N w.unk, wrd i t ⟨p, hp⟩ w]
  · rw [N.ext i p hp t v hv, mkF_con N (h.con _ (look_mem hv)), ext i p hp t v hv]
  · exact mkF_new N ⟨p, hp, n⟩
theorem nam_hom {W : List Wy} {ν g : Nat → Str → Str} (hW : ∀ p ∈ W, WyOk p) (N : Nam W ν) (ext : ∀ i p, W[i]? = some p → ∀ k v, dlook p.2 k = some v → g i k = v) (wrd : ∀ i t, (∃ p, W[i]? = some p) → IsWord t → g i t = t) {C t : Sto} (hC : ∀ a ∈ C, Cset W ν a) (ht : ∀ i p, W[i]? = some p → ∀ b ∈ p.1.2, chf (g i) b ∈ t) : Hom (mkF W ν g) C t :=
  ⟨fun v hv => mkF_con N hv, fun a ha => by
    obtain ⟨i, p, hp, b, hb, rfl⟩ := hC a ha
    rw [mkF_row hW N ext wrd hp hb]
    exact ht i p hp b hb⟩
/-- an unknown of the facts that come -/
theorem cset_unk {W : List Wy} {ν : Nat → Str → Str} (hW : ∀ p ∈ W, WyOk p) (N : Nam W ν) {a : List Str} (ha : Cset W ν a) {x : Str} (hx : x ∈ a.drop 1) (hu : isUnk x = true) : ∃ i v, NewV W i v ∧ x = ν i v := by
  obtain ⟨i, p, hp, b, hb, rfl⟩ := ha
  rw [chf_drop] at hx
  obtain ⟨t, ht, rfl⟩ := List.mem_map.mp hx
  have h := hW p (List.mem_of_getElem? hp)
  rcases head_term h.toWyB hb ht with w | ⟨v, hv⟩ | n
  · rw [N.wrd i t ⟨p, hp⟩ w, w.unk] at hu; cases hu
  · rw [N.ext i p hp t v hv, h.con _ (look_mem hv)] at hu; cases hu
  · exact ⟨i, t, ⟨p, hp, n⟩, rfl⟩
theorem nam_iso {W : List Wy} {ν ν' : Nat → Str → Str} (hW : ∀ p ∈ W, WyOk p) (N : Nam W ν) (N' : Nam W ν') {C C' : Sto} (hC : ∀ a, a ∈ C ↔ Cset W ν a) (hC' : ∀ a, a ∈ C' ↔ Cset W ν' a) (cc : CanR C') : Iso (mkF W ν ν') C ∧ renf (mkF W ν ν') C = C' := by
  have un : ∀ u ∈ unkOf C, ∃ i v, NewV W i v ∧ u = ν i v := fun u hu => by
    obtain ⟨h1, h2⟩ := mem_unk.mp hu
    obtain ⟨a, ha, hx⟩ := mem_vals.mp h1
    exact cset_unk hW N ((hC a).mp ha) hx h2
  refine ⟨⟨fun v hv => mkF_con N hv, fun u hu => ?_, fun u hu v hv e => ?_⟩, (can_renf _ _).eq cc fun a => ?_⟩
  · obtain ⟨i, v, h1, rfl⟩ := un u hu
    rw [mkF_new N h1]
    exact N'.unk i v h1
  · obtain ⟨i, x, h1, rfl⟩ := un u hu
    obtain ⟨j, y, h2, rfl⟩ := un v hv
    rw [mkF_new N h1, mkF_new N h2] at e
    obtain ⟨rfl, rfl⟩ := N'.inj _ _ _ _ h1 h2 e
    rfl
  · rw [mem_renf, hC']
    constructor
    · rintro ⟨b, hb, rfl⟩
      obtain ⟨i, p, hp, c, hc, rfl⟩ := (hC b).mp hb
      exact ⟨i, p, hp, c, hc, mkF_row hW N N'.ext N'.wrd hp hc⟩
    · rintro ⟨i, p, hp, c, hc, rfl⟩
      exact ⟨_, (hC _).mpr ⟨i, p, hp, c, hc, rfl⟩, (mkF_row hW N N'.ext N'.wrd hp hc).symm⟩
end DL

namespace DL
open PySem PySem.Spec L2
theorem foldl_flatMap' {α β σ : Type} (f : α → List β) (g : σ → β → σ) : ∀ (l : List α) (s : σ), (l.flatMap f).foldl g s = l.foldl (fun s a => (f a).foldl g s) s
  | [], _ => rfl
  | a :: l, s => by rw [List.flatMap_cons, List.foldl_append, List.foldl_cons, foldl_flatMap' f g l]
theorem foldl_map' {α β σ : Type} (f : α → β) (g : σ → β → σ) : ∀ (l : List α) (s : σ), (l.map f).foldl g s = l.foldl (fun s a => g s (f a)) s
  | [], _ => rfl
  | a :: l, s => by rw [List.map_cons, List.foldl_cons, List.foldl_cons, foldl_map' f g l]
/-- over the ways, in turn -/
theorem ways_fold {σ : Type} (b : Book') (src : Sto) (g : σ → Wy → σ) (s : σ) : (waysF b src).foldl g s = b.1.foldl (fun s r => (fitsF r.1 src []).foldl (fun s o => g s (r, o)) s) s := by
  unfold waysF
  rw [foldl_flatMap']
  congr 1
  funext s r
  rw [foldl_map']
theorem mem_ways {b : Book'} {src : Sto} {p : Wy} : p ∈ waysF b src ↔ p.1 ∈ b.1 ∧ p.2 ∈ fitsF p.1.1 src [] := by
  unfold waysF
  rw [List.mem_flatMap]
  constructor
  · rintro ⟨r, hr, h⟩
    obtain ⟨o, ho, rfl⟩ := List.mem_map.mp h
    exact ⟨hr, ho⟩
  · rintro ⟨h1, h2⟩
    exact ⟨p.1, h1, List.mem_map.mpr ⟨p.2, h2, rfl⟩⟩
/-- the ways of rules into a source are ways -/
theorem way_b {r : Rule'} (hr : RuleOk r) {src : Sto} {o : Nm} (ho : o ∈ fitsF r.1 src []) : WyB (r, o) := by
  have W := fits_way (P := fun _ => True) (store := src) (fun _ _ _ _ => trivial) (fun a ha => by have := (hr.asc (List.mem_append_left _ ha)).2.1; omega) o ho
  refine ⟨hr, fun k => ⟨fun hk => ?_, fun hk => ?_⟩, W.kn⟩
  · have := fits_kp (P := fun t => t ∈ varsOf r.1) (store := src) (fun a ha t ht hf => ?_) (kp_nil _) o ho k hk
    · exact this
    · obtain ⟨n, ts, rfl, h1, h2, h3⟩ := hr.at_ a (List.mem_append_left _ ha)
      rcases h3 t ht with w | w
      · rw [word_free w] at hf; cases hf
      · exact mem_varsOf.mpr ⟨w, _, ha, ht⟩
  · obtain ⟨hv, a, ha, hm⟩ := mem_varsOf.mp hk
    obtain ⟨f, hf, e1, e2, e3⟩ := (fits_sound ho).2 a ha
    obtain ⟨i, hi, e⟩ := List.mem_iff_getElem.mp hm
    have hi2 : i < (f.drop 1).length := by rw [List.length_drop] at hi ⊢; omega
    have hz : (k, (f.drop 1)[i]) ∈ (a.drop 1).zip (f.drop 1) := by
      rw [List.mem_iff_getElem]
      exact ⟨i, by rw [List.length_zip]; omega, by simp [← e]⟩
    have l := (e3 _ hz).1 (var_free hv)
    exact List.mem_map.mpr ⟨_, look_mem l, rfl⟩
theorem ways_b {b : Book'} {src : Sto} (hb : ∀ r ∈ b.1, RuleOk r) : ∀ p ∈ waysF b src, WyB p := fun p hp => by
  obtain ⟨h1, h2⟩ := mem_ways.mp hp
  exact way_b (hb _ h1) h2
theorem way_ok {r : Rule'} (hr : RuleOk r) {src : Sto} (hs : ∀ f ∈ src, ∀ v ∈ f.drop 1, IsWord v) {o : Nm} (ho : o ∈ fitsF r.1 src []) : WyOk (r, o) ∧ ∀ q ∈ o, IsWord q.2 := by
  have W := fits_way (P := IsWord) hs (fun a ha => by have := (hr.asc (List.mem_append_left _ ha)).2.1; omega) o ho
  exact ⟨⟨way_b hr ho, fun q hq => (W.val q hq).unk⟩, W.val⟩
theorem ways_ok {b : Book'} {src : Sto} (hb : ∀ r ∈ b.1, RuleOk r) (hs : ∀ f ∈ src, ∀ v ∈ f.drop 1, IsWord v) : ∀ p ∈ waysF b src, WyOk p := fun p hp => by
  obtain ⟨h1, h2⟩ := mem_ways.mp hp
  exact (way_ok (hb _ h1) hs h2).1
/-- how many new unknowns stand ahead of a way -/
def offW (W : List Wy) (i : Nat) : Int := ((W.take i).map fun p => ((newOf p.1).length : Int)).sum
theorem offW_cons (p : Wy) (W : List Wy) (i : Nat) : offW (p :: W) (i + 1) = (newOf p.1).length + offW W i := rfl
theorem offW_zero (W : List Wy) : offW W 0 = 0 := rfl
theorem offW_nonneg : ∀ (W : List Wy) (i : Nat), 0 ≤ offW W i
  | [], i => by simp [offW]
  | p :: W, 0 => by simp [offW]
  | p :: W, i + 1 => by rw [offW_cons]; have := offW_nonneg W i; omega
theorem offW_le : ∀ {W : List Wy} {i j : Nat} {p : Wy}, W[i]? = some p → i < j → offW W i + (newOf p.1).length ≤ offW W j
  | q :: W, 0, j + 1, p, h, _ => by
    cases h
    rw [offW_cons, offW_zero]
    have := offW_nonneg W j
    omega
  | q :: W, i + 1, j + 1, p, h, hl => by
    rw [offW_cons, offW_cons]
    have := offW_le (W := W) (i := i) (j := j) (p := p) h (by omega)
    omega
theorem offW_2 {W : List Wy} (h : ∀ p ∈ W, RuleOk p.1) (i : Nat) : offW W i ≤ 2 * W.length := by
  induction W generalizing i with
  | nil => simp [offW]
  | cons p W ih =>
    cases i with
    | zero => rw [offW_zero]; omega
    | succ i =>
      rw [offW_cons]
      have := ih (fun q hq => h q (List.mem_cons_of_mem _ hq)) i
      have := (h p List.mem_cons_self).new2
      simp; omega
/-- an order of the new variables -/
structure Ord (N : Wy → List Str) (W : List Wy) : Prop where
  nd : ∀ p ∈ W, (N p).Nodup
  mem : ∀ p ∈ W, ∀ v, v ∈ N p ↔ v ∈ newOf p.1
theorem newOf_nodup (r : Rule') : (newOf r).Nodup := (nodup_srtS _).filter _
theorem Ord.len {N : Wy → List Str} {W : List Wy} (h : Ord N W) {p : Wy} (hp : p ∈ W) : (N p).length = (newOf p.1).length :=
  ((List.perm_ext_iff_of_nodup (h.nd p hp) (newOf_nodup p.1)).mpr (h.mem p hp)).length_eq
def nuN (W : List Wy) (N : Wy → List Str) (i : Nat) (t : Str) : Str := match W[i]? with
  | some p => nmf (p.2 ++ mkN (offW W i) (N p)) t
  | none => t
theorem nuN_at {W : List Wy} {N : Wy → List Str} {i : Nat} {p : Wy} (h : W[i]? = some p) : nuN W N i = nmf (p.2 ++ mkN (offW W i) (N p)) := by
  funext t
  unfold nuN
  rw [h]
theorem new_nokey {p : Wy} (h : WyB p) {v : Str} (hv : v ∈ newOf p.1) : v ∉ p.2.map (·.1) := fun z => by
  have := (List.mem_filter.mp hv).2
  rw [Bool.not_eq_true', decide_eq_false_iff_not] at this
  exact this ((h.key v).mp z)
theorem nuN_new {W : List Wy} {N : Wy → List Str} (hW : ∀ p ∈ W, WyB p) (O : Ord N W) {i : Nat} {p : Wy} (hp : W[i]? = some p) {v : Str} (hv : v ∈ newOf p.1) : ∃ j : Nat, j < (newOf p.1).length ∧ (N p)[j]? = some v ∧ nuN W N i v = unkT (offW W i + j + 1) := by
  have pm := List.mem_of_getElem? hp
  obtain ⟨j, h1, h2, h3⟩ := mkN_look (N p) (offW W i) (O.nd p pm) ((O.mem p pm v).mpr hv)
  refine ⟨j, by rw [← O.len pm]; exact h1, h2, ?_⟩
  rw [nuN_at hp]
  unfold nmf dget
  rw [look_app2, look_no (new_nokey (hW p pm) hv)]
  show (dlook _ v).getD v = _
  rw [h3]; rfl
theorem nam_of {W : List Wy} {N : Wy → List Str} (hW : ∀ p ∈ W, WyB p) (O : Ord N W) (hl : W.length ≤ 1000000) : Nam W (nuN W N) where
  ext := fun i p hp k v h => by
    rw [nuN_at hp]
    unfold nmf dget
    rw [look_app2, h]; rfl
  unk := fun i v ⟨p, hp, hv⟩ => by
    obtain ⟨j, _, _, e⟩ := nuN_new hW O hp hv
    rw [e]; exact unkT_isUnk _
  inj := fun i j u v ⟨p, hp, hu⟩ ⟨q, hq, hv⟩ e => by
    obtain ⟨a, a1, a2, a3⟩ := nuN_new hW O hp hu
    obtain ⟨b, b1, b2, b3⟩ := nuN_new hW O hq hv
    rw [a3, b3] at e
    have ro : ∀ p ∈ W, RuleOk p.1 := fun p h => (hW p h).ro
    have x1 := offW_nonneg W i
    have x2 := offW_nonneg W j
    have x3 := offW_2 ro i
    have x4 := offW_2 ro j
    have y1 := (ro p (List.mem_of_getElem? hp)).new2
    have y2 := (ro q (List.mem_of_getElem? hq)).new2
    have e := unkT_inj (by omega) (by omega) e
    have ij : i = j := by
      rcases Nat.lt_trichotomy i j with h | h | h
      · have := offW_le hp h; omega
      · exact h
      · have := offW_le hq h; omega
    subst ij
    rw [hp] at hq
    cases hq
    have ab : a = b := by omega
    subst ab
    rw [a2] at b2
    exact ⟨rfl, Option.some.inj b2⟩
  wrd := fun i t ⟨p, hp⟩ w => by
    have pm := List.mem_of_getElem? hp
    rw [nuN_at hp]
    refine nmf_no fun z => ?_
    rw [List.map_append, mkN_keys, List.mem_append] at z
    rcases z with z | z
    · have := (mem_varsOf.mp (((hW p pm).key t).mp z)).1
      obtain ⟨c, h1, h2, rfl⟩ := isVarS_iff.mp this
      have := w.2.2 c (by rw [cps_mk]; simp)
      omega
    · have := (O.mem p pm t).mp z
      have := (mem_varsOf.mp (List.mem_filter.mp this).1).1
      obtain ⟨c, h1, h2, rfl⟩ := isVarS_iff.mp this
      have := w.2.2 c (by rw [cps_mk]; simp)
      omega
/-- a step that adds the head's atoms -/
structure StepN (N : Wy → List Str) (W : List Wy) (step : Sto × Int → Wy → Sto × Int) : Prop where
  mem : ∀ st p, p ∈ W → ∀ a, a ∈ (step st p).1 ↔ a ∈ st.1 ∨ ∃ b ∈ p.1.2, a = chf (nmf (p.2 ++ mkN st.2 (N p))) b
  many : ∀ st p, p ∈ W → (step st p).2 = st.2 + (newOf p.1).length
theorem step_fold {N : Wy → List Str} {step : Sto × Int → Wy → Sto × Int} : ∀ {W : List Wy} (S : StepN N W step) (st : Sto × Int), (∀ a, a ∈ (W.foldl step st).1 ↔ a ∈ st.1 ∨ ∃ i p, W[i]? = some p ∧ ∃ b ∈ p.1.2, a = chf (nmf (p.2 ++ mkN (st.2 + offW W i) (N p))) b) ∧ (W.foldl step st).2 = st.2 + offW W W.length
  | [], S, st => ⟨fun a => by simp, by simp [offW]⟩
  | p :: W, S, st => by
    obtain ⟨h1, h2⟩ := step_fold (W := W) ⟨fun st q hq => S.mem st q (List.mem_cons_of_mem _ hq), fun st q hq => S.many st q (List.mem_cons_of_mem _ hq)⟩ (step st p)
    have e := S.many st p List.mem_cons_self
    refine ⟨fun a => ?_, by rw [List.foldl_cons, h2, e, List.length_cons, offW_cons]; omega⟩
    rw [List.foldl_cons, h1, S.mem st p List.mem_cons_self, e]
    constructor
    · rintro ((h | h) | ⟨i, q, hq, b, hb, h⟩)
      · exact .inl h
      · obtain ⟨b, hb, h⟩ := h
        exact .inr ⟨0, p, rfl, b, hb, by rw [offW_zero, Int.add_zero]; exact h⟩
      · exact .inr ⟨i + 1, q, hq, b, hb, by rw [offW_cons, ← Int.add_assoc]; exact h⟩
    · rintro (h | ⟨i, q, hq, b, hb, h⟩)
      · exact .inl (.inl h)
      · cases i with
        | zero =>
          cases hq
          rw [offW_zero, Int.add_zero] at h
          exact .inl (.inr ⟨b, hb, h⟩)
        | succ i =>
          rw [offW_cons, ← Int.add_assoc] at h
          exact .inr ⟨i, q, hq, b, hb, h⟩
theorem step_cset {N : Wy → List Str} {step : Sto × Int → Wy → Sto × Int} {W : List Wy} (S : StepN N W step) : (∀ a, a ∈ (W.foldl step ([], 0)).1 ↔ Cset W (nuN W N) a) ∧ (W.foldl step ([], 0)).2 = offW W W.length := by
  obtain ⟨h1, h2⟩ := step_fold S ([], 0)
  refine ⟨fun a => ?_, by rw [h2]; simp⟩
  rw [h1]
  constructor
  · rintro (h | ⟨i, p, hp, b, hb, h⟩)
    · cases h
    · exact ⟨i, p, hp, b, hb, by rw [nuN_at hp]; rw [show ([], (0 : Int)).2 + offW W i = offW W i from Int.zero_add _] at h; exact h⟩
  · rintro ⟨i, p, hp, b, hb, h⟩
    rw [nuN_at hp] at h
    exact .inr ⟨i, p, hp, b, hb, by rw [show (([] : Sto), (0 : Int)).2 + offW W i = offW W i from Int.zero_add _]; exact h⟩
/-! the law's order, the program's -/
def ordL (p : Wy) : List Str := newOf p.1
def ordP (p : Wy) : List Str := newL (p.2.map (·.1)) [] (p.1.2.flatMap (·.drop 1))
theorem ord_L (W : List Wy) : Ord ordL W := ⟨fun p _ => newOf_nodup p.1, fun p _ v => Iff.rfl⟩
theorem ord_P {W : List Wy} (hW : ∀ p ∈ W, WyB p) : Ord ordP W := ⟨fun p _ => newL_nodup (by simp), fun p hp v => by
  have h := hW p hp
  unfold ordP
  rw [newL_mem]
  constructor
  · rintro (q | ⟨q1, q2, q3⟩)
    · cases q
    · obtain ⟨a, ha, hm⟩ := List.mem_flatMap.mp q1
      rcases head_term h ha hm with w | ⟨u, hu⟩ | n
      · rw [word_free w] at q2; cases q2
      · exact absurd (List.mem_map.mpr ⟨_, look_mem hu, rfl⟩) q3
      · exact n
  · intro q
    obtain ⟨h1, a, ha, hm⟩ := mem_varsOf.mp (List.mem_filter.mp q).1
    exact .inr ⟨List.mem_flatMap.mpr ⟨a, ha, hm⟩, var_free h1, new_nokey h q⟩⟩
def stepL (st : Sto × Int) (p : Wy) : Sto × Int := comeW p.1 st p.2
def stepP (st : Sto × Int) (p : Wy) : Sto × Int := (st.1 ++ p.1.2.map (chF (invF p.1 p.2 st.2)), st.2 + (invF p.1 p.2 st.2).length - p.2.length)
theorem invF_ord (p : Wy) (m : Int) : invF p.1 p.2 m = p.2 ++ mkN m (ordP p) := by
  unfold invF ordP
  have := invF_eq p.2 m (p.1.2.flatMap (·.drop 1)) []
  simp only [mkN, List.append_nil] at this
  exact this
theorem step_L {W : List Wy} (hW : ∀ p ∈ W, WyB p) : StepN ordL W stepL := ⟨fun st p hp a => by
  have e : nameF (newOf p.1) (st.2, p.2) = (st.2 + (newOf p.1).length, p.2 ++ mkN st.2 (newOf p.1)) := nameF_eq _ _ _ (newOf_nodup p.1) fun v hv => new_nokey (hW p hp) hv
  unfold stepL comeW
  rw [e]
  dsimp only
  rw [List.mem_append, mem_srtR, List.mem_map]
  exact ⟨fun h => h.imp id fun ⟨b, h1, h2⟩ => ⟨b, h1, h2.symm⟩, fun h => h.imp id fun ⟨b, h1, h2⟩ => ⟨b, h1, h2.symm⟩⟩, fun st p hp => by
  have e : nameF (newOf p.1) (st.2, p.2) = (st.2 + (newOf p.1).length, p.2 ++ mkN st.2 (newOf p.1)) := nameF_eq _ _ _ (newOf_nodup p.1) fun v hv => new_nokey (hW p hp) hv
  unfold stepL comeW
  rw [e]⟩
theorem step_P {W : List Wy} (hW : ∀ p ∈ W, WyB p) : StepN ordP W stepP := ⟨fun st p hp a => by
  unfold stepP
  rw [invF_ord]
  dsimp only
  rw [List.mem_append, List.mem_map]
  exact ⟨fun h => h.imp id fun ⟨b, h1, h2⟩ => ⟨b, h1, h2.symm⟩, fun h => h.imp id fun ⟨b, h1, h2⟩ => ⟨b, h1, h2.symm⟩⟩, fun st p hp => by
  unfold stepP
  rw [invF_ord]
  dsimp only
  rw [List.length_append, mkN_len, (ord_P hW).len hp]
  omega⟩
/-- what comes, by the program -/
def comeP (b : Book') (src : Sto) : Sto := Rs.srtR ((waysF b src).foldl stepP ([], 0)).1
theorem comeF_ways (b : Book') (src : Sto) : comeF b src = (Rs.srtR ((waysF b src).foldl stepL ([], 0)).1, ((waysF b src).foldl stepL ([], 0)).2) := by
  unfold comeF
  rw [ways_fold]; rfl
/-- both are alike up to names -/
theorem come_iso {b : Book'} {src : Sto} (hb : ∀ r ∈ b.1, RuleOk r) (hs : ∀ f ∈ src, ∀ v ∈ f.drop 1, IsWord v) (hl : (waysF b src).length ≤ 1000000) : ∃ f, Iso f (comeF b src).1 ∧ renf f (comeF b src).1 = comeP b src := by
  have hW := ways_ok hb hs
  have hB := ways_b (src := src) hb
  obtain ⟨l1, l2⟩ := step_cset (step_L hB)
  obtain ⟨p1, p2⟩ := step_cset (step_P hB)
  rw [comeF_ways]
  exact ⟨_, nam_iso hW (nam_of hB (ord_L _) hl) (nam_of hB (ord_P hB) hl) (fun a => by rw [mem_srtR]; exact l1 a) (fun a => by unfold comeP; rw [mem_srtR]; exact p1 a) (can_srtR _)⟩
end DL

namespace DL
open PySem PySem.Spec L2
/-! right stores -/
/-- a rule is kept -/
def RKept (r : Rule') (src t : Sto) : Prop := ∀ o ∈ fitsF r.1 src [], ∃ g : Str → Str, (∀ k v, dlook o k = some v → g k = v) ∧ (∀ x, IsWord x → g x = x) ∧ ∀ a ∈ r.2, chf g a ∈ t
theorem RuleOk.term {r : Rule'} (h : RuleOk r) {a : List Str} (ha : a ∈ r.1 ++ r.2) {t : Str} (ht : t ∈ a.drop 1) : IsWord t ∨ isVarS t = true := by
  obtain ⟨n, ts, rfl, _, _, h3⟩ := h.at_ a ha
  exact h3 t ht
/-- the keys kept -/
def KKept (ks : List Key') (t : Sto) : Prop := ∀ k ∈ ks, unkeptF k t = none
def Right (b : Book') (src t : Sto) : Prop := (∀ r ∈ b.1, RKept r src t) ∧ KKept b.2 t
/-- less of the source, more facts: a rule is kept all the same -/
theorem fold_sub {s t : Sto} (hs : ∀ a ∈ s, a ∈ t) : ∀ {as : Sto} {w w' : List Nm}, (∀ o ∈ w, o ∈ w') → ∀ o ∈ foldW s as w, o ∈ foldW t as w'
  | [], _, _, h, o, ho => h o ho
  | a :: as, w, w', h, o, ho => fold_sub hs (as := as) (w := growF a w s) (w' := growF a w' t) (fun x hx => by
    obtain ⟨own, h1, h2⟩ := List.mem_flatMap.mp hx
    obtain ⟨f, hf, e⟩ := List.mem_filterMap.mp h2
    exact List.mem_flatMap.mpr ⟨own, h own h1, List.mem_filterMap.mpr ⟨f, hs f hf, e⟩⟩) o ho
theorem RKept.part {r : Rule'} {src src' t : Sto} (h : RKept r src t) (hs : ∀ a ∈ src', a ∈ src) : RKept r src' t := fun o ho => h o (fold_sub hs (fun _ z => z) o ho)
theorem RKept.hom {r : Rule'} (hr : RuleOk r) {src t u : Sto} (hs : ∀ f ∈ src, ∀ v ∈ f.drop 1, IsWord v) (h : RKept r src t) {f : Str → Str} (hf : Hom f t u) : RKept r src u := fun o ho => by
  obtain ⟨g, h1, h2, h3⟩ := h o ho
  refine ⟨f ∘ g, fun k v e => ?_, fun x hx => ?_, fun a ha => ?_⟩
  · show f (g k) = v
    rw [h1 k v e]
    exact hf.1 v ((way_ok hr hs ho).2 _ (look_mem e)).unk
  · show f (g x) = x
    rw [h2 x hx]
    exact hf.1 x hx.unk
  · rw [← chf_chf]
    exact hf.2 _ (h3 a ha)
theorem KKept.part {ks ks' : List Key'} {t : Sto} (h : KKept ks t) (hs : ∀ k ∈ ks', k ∈ ks) : KKept ks' t := fun k hk => h k (hs k hk)
theorem chf_head {g : Str → Str} {f : List Str} : (chf g f).head? = f.head? := by
  cases f <;> rfl
/-- facts of kinds -/
def KW (kinds : List (Str × Int)) (s : Sto) : Prop := ∀ f ∈ s, ∃ kd ∈ kinds, f.head? = some kd.1 ∧ (f.length : Int) - 1 = kd.2
end DL

namespace DL
open PySem PySem.Spec L2
/-! keys kept by joining -/
def diffF (f g : List Str) : Option (Str × Str) := ((f.drop 1).zip (g.drop 1)).find? fun p => !decide (p.1 = p.2)
/-- the unknown that is replaced and what it is replaced by; none: a clash -/
def joinP (f g : List Str) : Option (Str × Str) := match diffF f g with
  | none => none
  | some (v, w) => if isUnk w = true then some (w, v) else if isUnk v = true then some (v, w) else none
def twoF (ks : List Key') (s : Sto) : Option (List Str × List Str) := ks.findSome? fun k => unkeptF k s
def fillF : Nat → List Key' → Sto → Option Sto
  | 0, _, s => some s
  | n + 1, ks, s => match twoF ks s with
    | none => some s
    | some (f, g) => match joinP f g with
      | none => none
      | some p => fillF n ks (renf (nmf [p]) s)
/-- stores that are filled -/
structure Cs (kinds : List (Str × Int)) (n : Nat) (s : Sto) : Prop where
  gs : Gs n 5 s
  can : CanR s
  kw : KW kinds s
theorem KW.ren {kinds : List (Str × Int)} {s : Sto} (h : KW kinds s) (f : Str → Str) : KW kinds (renf f s) := fun a ha => by
  obtain ⟨b, hb, rfl⟩ := mem_renf.mp ha
  obtain ⟨kd, k1, k2, k3⟩ := h b hb
  exact ⟨kd, k1, by rw [chf_head]; exact k2, by rw [chf_len]; exact k3⟩
theorem KW.len {kinds : List (Str × Int)} (hn : (kinds.map (·.1)).Nodup) {s : Sto} (h : KW kinds s) {f g : List Str} (hf : f ∈ s) (hg : g ∈ s) {n : Str} (e1 : f.head? = some n) (e2 : g.head? = some n) : f.length = g.length := by
  obtain ⟨a, a1, a2, a3⟩ := h f hf
  obtain ⟨b, b1, b2, b3⟩ := h g hg
  rw [e1] at a2
  rw [e2] at b2
  have inj : ∀ {l : List (Str × Int)}, (l.map (·.1)).Nodup → ∀ {x y : Str × Int}, x ∈ l → y ∈ l → x.1 = y.1 → x = y := by
    intro l
    induction l with
    | nil => intro _ x y hx; cases hx
    | cons z l ih =>
      intro hn x y hx hy e
      rw [List.map_cons, List.nodup_cons] at hn
      rcases List.mem_cons.mp hx with rfl | hx2
      · rcases List.mem_cons.mp hy with rfl | hy2
        · rfl
        · exact absurd (List.mem_map.mpr ⟨y, hy2, e.symm⟩ : x.1 ∈ l.map (·.1)) hn.1
      · rcases List.mem_cons.mp hy with rfl | hy2
        · exact absurd (List.mem_map.mpr ⟨x, hx2, e⟩ : y.1 ∈ l.map (·.1)) hn.1
        · exact ih hn.2 hx2 hy2 e
  have := inj hn a1 b1 (by rw [← Option.some.inj a2, ← Option.some.inj b2])
  subst this
  omega
/-- what is filled -/
structure Filled (kinds : List (Str × Int)) (n : Nat) (ks : List Key') (s t : Sto) : Prop where
  cs : Cs kinds n t
  kept : KKept ks t
  hom : ∃ f, Hom f s t
  unk : (unkOf t).length ≤ (unkOf s).length
  len : t.length ≤ s.length
  val : ∀ v ∈ valsOf t, v ∈ valsOf s
  uni : ∀ {h : Str → Str} {r : Sto}, Hom h s r → KKept ks r → Hom h t r
end DL

namespace DL
open PySem PySem.Spec L2
/-! what comes: its size, its unknowns, where it leads -/
structure SrcW (b : Book') (src : Sto) : Prop where
  ro : ∀ r ∈ b.1, RuleOk r
  q : ∀ f ∈ src, ∀ v ∈ f.drop 1, IsWord v
  ln : (waysF b src).length ≤ 256
theorem SrcW.ok {b : Book'} {src : Sto} (h : SrcW b src) : ∀ p ∈ waysF b src, WyOk p := ways_ok h.ro h.q
theorem SrcW.bk {b : Book'} {src : Sto} (h : SrcW b src) : ∀ p ∈ waysF b src, WyB p := ways_b h.ro
section
variable {b : Book'} {src : Sto} (h : SrcW b src)
include h
theorem SrcW.namP : Nam (waysF b src) (nuN (waysF b src) ordP) := nam_of h.bk (ord_P h.bk) (by have := h.ln; omega)
theorem SrcW.mem {a : List Str} : a ∈ comeP b src ↔ Cset (waysF b src) (nuN (waysF b src) ordP) a := by
  unfold comeP
  rw [mem_srtR]
  exact (step_cset (step_P h.bk)).1 a
theorem SrcW.many : (comeF b src).2 = offW (waysF b src) (waysF b src).length := by
  rw [comeF_ways]
  exact (step_cset (step_L h.bk)).2
theorem SrcW.new {i : Nat} {v : Str} (hv : NewV (waysF b src) i v) : ∃ k : Int, 1 ≤ k ∧ k ≤ (comeF b src).2 ∧ nuN (waysF b src) ordP i v = unkT k := by
  obtain ⟨p, hp, hv⟩ := hv
  obtain ⟨j, h1, h2, e⟩ := nuN_new h.bk (ord_P h.bk) hp hv
  have l := (List.getElem?_eq_some_iff.mp hp).1
  have o := offW_le hp l
  have n0 := offW_nonneg (waysF b src) i
  refine ⟨_, ?_, ?_, e⟩
  · omega
  · rw [h.many]; omega
theorem SrcW.many_le : 0 ≤ (comeF b src).2 ∧ (comeF b src).2 ≤ 512 := by
  rw [h.many]
  have := offW_2 (W := waysF b src) (fun p hp => (h.ok p hp).ro) (waysF b src).length
  have := offW_nonneg (waysF b src) (waysF b src).length
  have := h.ln
  omega
theorem SrcW.row {a : List Str} (ha : a ∈ comeP b src) : ∃ r ∈ b.1, ∃ c ∈ r.2, a.length = c.length ∧ a.head? = c.head? ∧ a ≠ [] ∧ a.length ≤ 5 ∧ ∀ t ∈ a, Tv t := by
  obtain ⟨i, p, hp, c, hc, rfl⟩ := h.mem.mp ha
  have pm := List.mem_of_getElem? hp
  have w := h.ok p pm
  obtain ⟨n, ts, rfl, h1, h2, h3⟩ := w.ro.at_ c (List.mem_append_right _ hc)
  refine ⟨p.1, (mem_ways.mp pm).1, _, hc, chf_len _ _, chf_head, chf_ne (by simp), by rw [chf_len]; simp; omega, fun t ht => ?_⟩
  have ht : t ∈ n :: ts.map (nuN (waysF b src) ordP i) := ht
  rcases List.mem_cons.mp ht with rfl | ht
  · exact .inl h2
  · obtain ⟨x, hx, rfl⟩ := List.mem_map.mp ht
    rcases head_term w.toWyB hc hx with z | ⟨v, hv⟩ | z
    · rw [h.namP.wrd i x ⟨p, hp⟩ z]; exact .inl z
    · rw [h.namP.ext i p hp x v hv]
      exact .inl ((way_ok w.ro h.q (mem_ways.mp pm).2).2 _ (look_mem hv))
    · obtain ⟨k, k1, k2, e⟩ := h.new ⟨p, hp, z⟩
      have := h.many_le
      rw [e]
      exact .inr (unkB_unk (unkT_unk k1 (by omega)))
theorem SrcW.unk : ((unkOf (comeP b src)).length : Int) ≤ (comeF b src).2 := by
  have m0 := h.many_le.1
  have : (unkOf (comeP b src)).length ≤ ((rng 1 ((comeF b src).2 + 1)).map unkT).length := nodup_le _ _ (unk_nodup _) fun u hu => by
    obtain ⟨h1, h2⟩ := mem_unk.mp hu
    obtain ⟨a, ha, hx⟩ := mem_vals.mp h1
    obtain ⟨i, v, hv, rfl⟩ := cset_unk h.ok h.namP (h.mem.mp ha) hx h2
    obtain ⟨k, k1, k2, e⟩ := h.new hv
    exact List.mem_map.mpr ⟨k, mem_rng.mpr ⟨k1, by omega⟩, e.symm⟩
  rw [List.length_map, rng_len] at this
  omega
theorem SrcW.size : (comeP b src).length = (comeF b src).1.length := by
  obtain ⟨f, i1, i2⟩ := come_iso h.ro h.q (by have := h.ln; omega)
  have cc : CanR (comeF b src).1 := by rw [comeF_ways]; exact can_srtR _
  refine Nat.le_antisymm ?_ ?_
  · rw [← i2]
    have := len_srtR ((comeF b src).1.map (chf f))
    rwa [List.length_map] at this
  · have := i1.round cc
    rw [i2] at this
    rw [← this]
    have := len_srtR ((comeP b src).map (chf (invf f (comeF b src).1)))
    rwa [List.length_map] at this
/-- the rules are kept by what comes -/
theorem SrcW.kept : ∀ r ∈ b.1, RKept r src (comeP b src) := fun r hr o ho => by
  have pm : (r, o) ∈ waysF b src := mem_ways.mpr ⟨hr, ho⟩
  obtain ⟨i, hi⟩ := List.mem_iff_getElem?.mp pm
  exact ⟨nuN (waysF b src) ordP i, fun k v e => h.namP.ext i _ hi k v e, fun x hx => h.namP.wrd i x ⟨_, hi⟩ hx, fun a ha => h.mem.mpr ⟨i, _, hi, a, ha, rfl⟩⟩
/-- it leads into each store that keeps the rules -/
theorem SrcW.uni {t : Sto} (hk : ∀ r ∈ b.1, RKept r src t) : ∃ f, Hom f (comeP b src) t := by
  have ch : ∀ i : Nat, ∃ g : Str → Str, ∀ p, (waysF b src)[i]? = some p → (∀ k v, dlook p.2 k = some v → g k = v) ∧ (∀ x, IsWord x → g x = x) ∧ ∀ a ∈ p.1.2, chf g a ∈ t := fun i => by
    cases q : (waysF b src)[i]? with
    | none => exact ⟨id, fun p hp => by cases hp⟩
    | some p =>
      obtain ⟨h1, h2⟩ := mem_ways.mp (List.mem_of_getElem? q)
      obtain ⟨g, hg⟩ := hk _ h1 _ h2
      exact ⟨g, fun p' hp => by cases hp; exact hg⟩
  exact ⟨_, nam_hom (g := fun i => (ch i).choose) h.ok h.namP (fun i p hp k v e => ((ch i).choose_spec p hp).1 k v e) (fun i x ⟨p, hp⟩ hx => ((ch i).choose_spec p hp).2.1 x hx) (fun a ha => h.mem.mp ha) fun i p hp a ha => ((ch i).choose_spec p hp).2.2 a ha⟩
end
/-- a text without the letter n -/
def Lw (w : Str) : Prop := ∀ c ∈ cpsS w, c ≠ 110
end DL

namespace DL
open PySem PySem.Spec L2
/-! a part of a source: what comes of it is no more -/
theorem flatMap_sub {α β : Type} {f g : α → List β} : ∀ {l : List α}, (∀ a ∈ l, (f a).Sublist (g a)) → (l.flatMap f).Sublist (l.flatMap g)
  | [], _ => List.Sublist.slnil
  | a :: l, h => by
    rw [List.flatMap_cons, List.flatMap_cons]
    exact (h a List.mem_cons_self).append (flatMap_sub fun b hb => h b (List.mem_cons_of_mem _ hb))
theorem flatMap_sub2 {α β : Type} {f : α → List β} {l m : List α} (h : l.Sublist m) : (l.flatMap f).Sublist (m.flatMap f) := by
  induction h with
  | slnil => exact List.Sublist.slnil
  | cons a _ ih => rw [List.flatMap_cons]; exact ih.trans (List.sublist_append_right _ _)
  | cons_cons a _ ih => rw [List.flatMap_cons, List.flatMap_cons]; exact (List.Sublist.refl _).append ih
theorem grow_sub {a : List Str} {w w' : List Nm} {s s' : Sto} (hw : w'.Sublist w) (hs : s'.Sublist s) : (growF a w' s').Sublist (growF a w s) :=
  (flatMap_sub2 hw).trans (flatMap_sub fun o _ => hs.filterMap _)
theorem foldW_sub {s s' : Sto} (hs : s'.Sublist s) : ∀ {as : Sto} {w w' : List Nm}, w'.Sublist w → (foldW s' as w').Sublist (foldW s as w)
  | [], _, _, h => h
  | a :: as, w, w', h => foldW_sub hs (as := as) (grow_sub h hs)
theorem ways_sub {b : Book'} {src src' : Sto} (hs : src'.Sublist src) : (waysF b src').Sublist (waysF b src) :=
  flatMap_sub fun r _ => (foldW_sub hs (List.Sublist.refl _)).map _
theorem SrcW.sub {b : Book'} {src src' : Sto} (h : SrcW b src) (hs : src'.Sublist src) : SrcW b src' := ⟨h.ro, fun f hf => h.q f (hs.subset hf), Nat.le_trans (ways_sub hs).length_le h.ln⟩
theorem SrcOk.sub {Q : Str → Prop} {rs : List Rule'} {src src' : Sto} (h : SrcOk Q rs src) (hs : src'.Sublist src) : SrcOk Q rs src' :=
  ⟨⟨Nat.le_trans hs.length_le h.fs.1, fun f hf => h.fs.2 f (hs.subset hf)⟩, fun f hf => h.q f (hs.subset hf), h.vl, fun r hr => Nat.le_trans (foldW_sub hs (as := r.1) (List.Sublist.refl [[]])).length_le (h.pw r hr)⟩
theorem Right.part {b : Book'} {src src' t : Sto} (h : Right b src t) (hs : ∀ a ∈ src', a ∈ src) : Right b src' t := ⟨fun r hr => (h.1 r hr).part hs, h.2⟩
end DL

namespace DL
open PySem PySem.Spec L2
/-! what comes by the law's order: right, it leads into all right ones -/
section
variable {b : Book'} {src : Sto} (h : SrcW b src)
include h
theorem SrcW.newL {i : Nat} {v : Str} (hv : NewV (waysF b src) i v) : ∃ k : Int, 1 ≤ k ∧ k ≤ (comeF b src).2 ∧ nuN (waysF b src) ordL i v = unkT k := by
  obtain ⟨p, hp, hv⟩ := hv
  obtain ⟨j, h1, h2, e⟩ := nuN_new h.bk (ord_L _) hp hv
  have l := (List.getElem?_eq_some_iff.mp hp).1
  have o := offW_le hp l
  have n0 := offW_nonneg (waysF b src) i
  refine ⟨_, ?_, ?_, e⟩
  · omega
  · rw [h.many]; omega
end
end DL

namespace DL
open PySem PySem.Spec L2
/-! rules for all sources: frozen bodies -/
theorem word_novar {x : Str} (h : IsWord x) : isVarS x = false := by
  cases q : isVarS x with
  | false => rfl
  | true =>
    obtain ⟨c, h1, h2, rfl⟩ := isVarS_iff.mp q
    have := h.2.2 c (by rw [cps_mk]; simp)
    omega
/-- a rule kept, by assignments -/
theorem rkept_iff {r : Rule'} (hr : RuleOk r) {s t : Sto} : RKept r s t ↔ ∀ θ : Str → Str, (∀ x, IsWord x → θ x = x) → (∀ a ∈ r.1, chf θ a ∈ s) → ∃ g : Str → Str, (∀ v ∈ varsOf r.1, g v = θ v) ∧ (∀ x, IsWord x → g x = x) ∧ ∀ a ∈ r.2, chf g a ∈ t := by
  have tm : ∀ a ∈ r.1, ∀ x ∈ a.drop 1, IsWord x ∨ isVarS x = true := fun a ha x hx => hr.term (List.mem_append_left _ ha) hx
  constructor
  · intro h θ hw hb
    obtain ⟨o, ho, so⟩ := fits_sat (g := θ) (store := s) (as := r.1) fun a ha => ⟨hb a ha, fun x hx hf => by
      rcases tm a ha x hx with w | v
      · exact hw x w
      · rw [var_free v] at hf; cases hf⟩
    obtain ⟨g, g1, g2, g3⟩ := h o ho
    refine ⟨g, fun v hv => ?_, g2, g3⟩
    obtain ⟨w, hl⟩ := look_some (((way_b hr ho).key v).mpr hv)
    rw [g1 v w hl, so v w hl]
  · intro h o ho
    have wb := way_b hr ho
    obtain ⟨_, hs⟩ := fits_sound ho
    have kp := fits_kp (P := fun t => freeS t = true) (store := s) (fun a ha t ht hf => hf) (kp_nil _) o ho
    have wno : ∀ x, IsWord x → nmf o x = x := fun x hx => nmf_no fun z => by
      have := (mem_varsOf.mp ((wb.key x).mp z)).1
      rw [word_novar hx] at this; cases this
    obtain ⟨g, g1, g2, g3⟩ := h (fun x => if x ∈ varsOf r.1 then nmf o x else x) (fun x hx => by
      rw [if_neg]
      intro z
      have := (mem_varsOf.mp z).1
      rw [word_novar hx] at this; cases this) fun a ha => by
        obtain ⟨f, hf, fit⟩ := hs a ha
        rw [chf_congr (g := nmf o) fun x hx => ?_, ← fit.eq kp]
        · exact hf
        · rcases tm a ha x hx with w | v
          · rw [wno x w]; split <;> rfl
          · rw [if_pos (mem_varsOf.mpr ⟨v, a, ha, hx⟩)]
    refine ⟨g, fun k v hl => ?_, g2, g3⟩
    have hk := (wb.key k).mp (List.mem_map.mpr ⟨_, look_mem hl, rfl⟩)
    have := g1 k hk
    rw [if_pos hk] at this
    rw [this, nmf_look hl]
/-- the body under an assignment -/
def putB (θ : Str → Str) (r : Rule') : Sto := r.1.map (chf θ)
/-- a right store may fail to keep a rule -/
def Fails (b : Book') (r : Rule') (s : Sto) : Prop := ∃ t, Right b s t ∧ ¬ RKept r s t
/-! words exchanged one-to-one -/
structure Pm (f g : Str → Str) : Prop where
  fg : ∀ x, f (g x) = x
  gf : ∀ x, g (f x) = x
  wf : ∀ x, IsWord x → IsWord (f x)
  wg : ∀ x, IsWord x → IsWord (g x)
  nf : ∀ x, ¬ IsWord x → f x = x
  ng : ∀ x, ¬ IsWord x → g x = x
theorem Pm.symm {f g : Str → Str} (h : Pm f g) : Pm g f := ⟨h.gf, h.fg, h.wg, h.wf, h.ng, h.nf⟩
theorem Pm.comp {f g f' g' : Str → Str} (h : Pm f g) (h' : Pm f' g') : Pm (f' ∘ f) (g ∘ g') :=
  ⟨fun x => by show f' (f (g (g' x))) = x; rw [h.fg, h'.fg], fun x => by show g (g' (f' (f x))) = x; rw [h'.gf, h.gf], fun x hx => h'.wf _ (h.wf x hx), fun x hx => h.wg _ (h'.wg x hx),
    fun x hx => by show f' (f x) = x; rw [h.nf x hx, h'.nf x hx], fun x hx => by show g (g' x) = x; rw [h'.ng x hx, h.ng x hx]⟩
def swp (a b x : Str) : Str := if x = a then b else if x = b then a else x
section
variable {f g : Str → Str} (P : Pm f g)
include P
theorem Pm.inj {x y : Str} (h : f x = f y) : x = y := by rw [← P.gf x, h, P.gf]
end
theorem RKept.congr {r : Rule'} (hr : RuleOk r) {s s' t t' : Sto} (hs : ∀ a, a ∈ s' → a ∈ s) (ht : ∀ a, a ∈ t → a ∈ t') (h : RKept r s t) : RKept r s' t' := by
  rw [rkept_iff hr] at h ⊢
  intro θ hw hb
  obtain ⟨g, g1, g2, g3⟩ := h θ hw fun a ha => hs _ (hb a ha)
  exact ⟨g, g1, g2, fun a ha => ht _ (g3 a ha)⟩
end DL

namespace DL
open PySem PySem.Spec L2
/-! the frozen bodies, all of them up to new words -/
def namedF (known new : List Str) (found : List (Nm × Int)) (v : Str) : List (Nm × Int) := found.flatMap fun p => (known ++ new.take (p.2 + 1).toNat).map fun w => (dput p.1 v w, p.2 + if p.2 < (new.length : Int) ∧ new[p.2.toNat]? = some w then 1 else 0)
def frozenL (known new : List Str) (vs : List Str) : List (Nm × Int) := vs.foldl (namedF known new) [([], 0)]
def frozenF (r : Rule') (known new : List Str) : List Sto := (frozenL known new (varsOf r.1)).map fun p => Rs.srtR (r.1.map (chF p.1))
/-- an entry that stands for an assignment -/
structure Ent (known new : List Str) (θ : Str → Str) (vs : List Str) (p : Nm × Int) (φ : List Str) : Prop where
  nd : φ.Nodup
  len : (φ.length : Int) = p.2
  le : φ.length ≤ vs.length
  wd : ∀ x ∈ φ, IsWord x ∧ x ∉ known
  key : ∀ k, k ∈ p.1.map (·.1) ↔ k ∈ vs
  val : ∀ v ∈ vs, ∃ w, dlook p.1 v = some w ∧ ((w ∈ known ∧ θ v = w) ∨ ∃ j : Nat, new[j]? = some w ∧ φ[j]? = some (θ v))
/-- what an entry is -/
structure EntS (known new : List Str) (vs : List Str) (p : Nm × Int) : Prop where
  m0 : 0 ≤ p.2
  key : p.1.map (·.1) = vs
  val : ∀ q ∈ p.1, q.2 ∈ known ++ new
theorem ents_all {known new : List Str} : ∀ (todo done : List Str) (fd : List (Nm × Int)), (done ++ todo).Nodup → (∀ p ∈ fd, EntS known new done p) → ∀ q ∈ todo.foldl (namedF known new) fd, EntS known new (done ++ todo) q
  | [], done, fd, _, h => by rw [List.append_nil]; exact h
  | v :: todo, done, fd, hn, h => by
    rw [List.foldl_cons]
    have hv : v ∉ done := fun z => by
      rw [List.nodup_append] at hn
      exact hn.2.2 v z v List.mem_cons_self rfl
    have := ents_all (known := known) (new := new) todo (done ++ [v]) (namedF known new fd v) (by rw [List.append_assoc]; exact hn) fun q hq => by
      obtain ⟨p, hp, hq⟩ := List.mem_flatMap.mp hq
      obtain ⟨w, hw, rfl⟩ := List.mem_map.mp hq
      have E := h p hp
      have nk : v ∉ p.1.map (·.1) := by rw [E.key]; exact hv
      refine ⟨?_, ?_, fun q hq => ?_⟩
      · dsimp only
        have := E.m0
        split <;> omega
      · dsimp only
        rw [put_new nk, List.map_append, E.key]; rfl
      · dsimp only at hq
        rw [put_new nk] at hq
        rcases List.mem_append.mp hq with hq | hq
        · exact E.val q hq
        · rw [List.mem_singleton.mp hq]
          rcases List.mem_append.mp hw with z | z
          · exact List.mem_append_left _ z
          · exact List.mem_append_right _ (List.mem_of_mem_take z)
    rwa [List.append_assoc] at this
theorem ents {known new vs : List Str} (h : vs.Nodup) : ∀ p ∈ frozenL known new vs, EntS known new vs p :=
  ents_all vs [] _ h fun p hp => by rw [List.mem_singleton.mp hp]; exact ⟨Int.le_refl _, rfl, fun _ h => (by cases h)⟩
/-- a rule that follows is kept for all sources -/
def Follows (b : Book') (r : Rule') : Prop := ∀ s : Sto, (∀ f ∈ s, ∀ v ∈ f.drop 1, IsWord v) → ¬ Fails b r s
end DL

namespace DL
open PySem PySem.Spec L2
/-- a greater book keeps what a lesser one does -/
theorem Right.fewer {b b' : Book'} {s t : Sto} (h : Right b s t) (h1 : ∀ r ∈ b'.1, r ∈ b.1) (h2 : ∀ k ∈ b'.2, k ∈ b.2) : Right b' s t := ⟨fun r hr => h.1 r (h1 r hr), fun k hk => h.2 k (h2 k hk)⟩
end DL

/-! questions: ways of one into another, frozen questions -/
namespace DL
open PySem PySem.Spec L2
abbrev Qst := List Str × Sto
/-- a question's terms -/
structure QT (q : Qst) : Prop where
  term : ∀ a ∈ q.2, ∀ t ∈ a.drop 1, IsWord t ∨ isVarS t = true
  has : ∀ v ∈ q.1, ∃ a ∈ q.2, v ∈ a.drop 1 ∧ isVarS v = true
theorem word_var {t : Str} (h : IsWord t) : isVarS t = false := by
  cases q : isVarS t with
  | false => rfl
  | true =>
    have := word_free h
    rw [var_free q] at this; cases this
theorem QT.free {q : Qst} (h : QT q) {a : List Str} (ha : a ∈ q.2) {t : Str} (ht : t ∈ a.drop 1) : freeS t = isVarS t := by
  rcases h.term a ha t ht with z | z
  · rw [word_free z, word_var z]
  · rw [var_free z, z]
/-- a way of one question into another one -/
structure IsW (one other : Qst) (p : Nm) : Prop where
  ks : p.map (·.1) = varsOf other.2
  at' : ∀ a ∈ other.2, chf (nmf p) a ∈ one.2
  out : other.1.map (nmf p) = one.1
/-- .. as a function -/
def FW (one other : Qst) (g : Str → Str) : Prop := (∀ a ∈ other.2, ∀ t ∈ a.drop 1, IsWord t → g t = t) ∧ (∀ a ∈ other.2, chf g a ∈ one.2) ∧ other.1.map g = one.1
/-- each answer to one is an answer to other -/
def Wn (one other : Qst) : Prop := ∃ g, FW one other g
theorem vars_can (as : Sto) : Can (varsOf as) := can_srtS _
theorem vars_nodup (as : Sto) : (varsOf as).Nodup := (vars_can as).1
section
variable {one other third q : Qst} {p : Nm} {g h : Str → Str}
theorem IsW.kn (w : IsW one other p) : KN p := by unfold KN; rw [w.ks]; exact vars_nodup _
theorem IsW.fix (w : IsW one other p) {t : Str} (ht : isVarS t = false) : nmf p t = t := nmf_no fun z => by
  rw [w.ks] at z
  rw [(mem_varsOf.mp z).1] at ht; cases ht
/-- the pairs of a function -/
def wayOf (other : Qst) (g : Str → Str) : Nm := (varsOf other.2).map fun v => (v, g v)
/-- chains of ways -/
theorem Wn.trans (w1 : Wn one other) (w2 : Wn other third) : Wn one third := by
  obtain ⟨g, g1, g2, g3⟩ := w1
  obtain ⟨h, h1, h2, h3⟩ := w2
  refine ⟨g ∘ h, fun a ha t ht hw => ?_, fun a ha => ?_, ?_⟩
  · show g (h t) = t
    rw [h1 a ha t ht hw]
    refine g1 _ (h2 a ha) t ?_ hw
    rw [chf_drop]
    exact List.mem_map.mpr ⟨t, ht, h1 a ha t ht hw⟩
  · rw [← chf_chf]
    exact g2 _ (h2 a ha)
  · rw [← g3, ← h3, List.map_map]
theorem Wn.sub {out : List Str} {as bs : Sto} (h : ∀ a ∈ bs, a ∈ as) : Wn (out, as) (out, bs) := ⟨id, fun _ _ _ _ _ => rfl, fun a ha => by
  show chf id a ∈ as
  rw [chf_id (f := id) fun _ _ => rfl]
  exact h a ha, List.map_id _⟩
theorem Wn.refl (q : Qst) : Wn q q := Wn.sub (out := q.1) fun _ h => h
end
/-- names for the variables of atoms: unlike words of their own -/
structure Frz (as : Sto) (known : List Str) (names : Nm) : Prop where
  ks : names.map (·.1) = varsOf as
  nd : (names.map (·.2)).Nodup
  wd : ∀ p ∈ names, IsWord p.2
  nw : ∀ p ∈ names, p.2 ∉ known
/-- .. the other way round -/
def backF (names : Nm) : Nm := names.map fun p => (p.2, p.1)
section
variable {one other : Qst} {known : List Str} {names : Nm}
theorem Frz.kn (f : Frz one.2 known names) : KN names := by unfold KN; rw [f.ks]; exact vars_nodup _
theorem Frz.bk (f : Frz one.2 known names) : KN (backF names) := by
  unfold KN backF
  rw [List.map_map]
  exact f.nd
theorem Frz.look (f : Frz one.2 known names) {v : Str} (hv : v ∈ varsOf one.2) : ∃ w, (v, w) ∈ names ∧ nmf names v = w := by
  rw [← f.ks] at hv
  obtain ⟨⟨a, b⟩, h1, rfl⟩ := List.mem_map.mp hv
  exact ⟨b, h1, nmf_look (look_of f.kn h1)⟩
theorem Frz.fix (f : Frz one.2 known names) {t : Str} (ht : isVarS t = false) : nmf names t = t := nmf_no fun z => by
  rw [f.ks] at z
  rw [(mem_varsOf.mp z).1] at ht; cases ht
/-- a term frozen and back -/
theorem Frz.round (f : Frz one.2 known names) (ho : QT one) (hk : ∀ a ∈ one.2, ∀ t ∈ a.drop 1, IsWord t → t ∈ known) {a : List Str} (ha : a ∈ one.2) {t : Str} (ht : t ∈ a.drop 1) : nmf (backF names) (nmf names t) = t := by
  rcases ho.term a ha t ht with z | z
  · rw [f.fix (word_var z)]
    refine nmf_no fun q => ?_
    unfold backF at q
    rw [List.map_map] at q
    obtain ⟨p, hp, e⟩ := List.mem_map.mp q
    have e : p.2 = t := e
    exact f.nw p hp (by rw [e]; exact hk a ha t ht z)
  · obtain ⟨w, h1, h2⟩ := f.look (mem_varsOf.mpr ⟨z, a, ha, ht⟩)
    rw [h2]
    exact nmf_look (look_of f.bk (List.mem_map.mpr ⟨_, h1, rfl⟩))
/-- no unknown and no variable -/
theorem Frz.val (f : Frz one.2 known names) (ho : QT one) {a : List Str} (ha : a ∈ one.2) {t : Str} (ht : t ∈ a.drop 1) : IsWord (nmf names t) := by
  rcases ho.term a ha t ht with z | z
  · rw [f.fix (word_var z)]; exact z
  · obtain ⟨w, h1, h2⟩ := f.look (mem_varsOf.mpr ⟨z, a, ha, ht⟩)
    rw [h2]
    exact f.wd _ h1
/-- the ways told of fits into a frozen question -/
def toldW (names : Nm) (o : Nm) : Nm := itemsF (o.map fun p => (p.1, nmf (backF names) p.2))
theorem toldW_ks {o : Nm} (ho : QT other) {s : Sto} (h : o ∈ fitsF other.2 s []) (hk : KN o) : (toldW names o).map (·.1) = varsOf other.2 := by
  have e : (o.map fun p => (p.1, nmf (backF names) p.2)).map (·.1) = o.map (·.1) := by rw [List.map_map]; rfl
  refine items_names (by unfold KN; rw [e]; exact hk) (vars_can _) fun x => ?_
  rw [e]
  constructor
  · intro hx
    obtain ⟨hv, a, ha, ht⟩ := mem_varsOf.mp hx
    obtain ⟨f, hf, e1, e2, e3⟩ := (fits_sound h).2 a ha
    obtain ⟨i, hi, ei⟩ := List.mem_iff_getElem.mp ht
    have hi2 : i < (f.drop 1).length := by rw [List.length_drop] at hi ⊢; omega
    have hz : (x, (f.drop 1)[i]) ∈ (a.drop 1).zip (f.drop 1) := by
      rw [List.mem_iff_getElem]
      exact ⟨i, by rw [List.length_zip]; omega, by simp [← ei]⟩
    exact List.mem_map.mpr ⟨_, look_mem ((e3 _ hz).1 (var_free hv)), rfl⟩
  · intro hx
    have := fits_kp (P := fun t => t ∈ varsOf other.2) (fun a ha t ht hf => mem_varsOf.mpr ⟨by rw [← ho.free ha ht]; exact hf, a, ha, ht⟩) (kp_nil _) o h x hx
    exact this
theorem nd_way {s : Sto} (hl : ∀ a ∈ other.2, a.length ≤ 9) {o : Nm} (h : o ∈ fitsF other.2 s []) : KN o := (fits_way (P := fun _ => True) (fun _ _ _ _ => trivial) hl o h).kn
end
end DL
namespace DL
open PySem PySem.Spec L2
/-! answers to a question in another one's frozen store -/
section
variable {one other q : Qst} {known : List Str} {names : Nm} {g : Str → Str}
theorem QT.row {o : Nm} {s : Sto} (ho : QT other) (h : o ∈ fitsF other.2 s []) (hl : ∀ a ∈ other.2, a.length ≤ 9) : (∀ v ∈ varsOf other.2, v ∈ o.map (·.1)) ∧ (∀ v ∈ other.1, v ∈ o.map (·.1)) ∧ ∀ a ∈ other.2, chf (nmf o) a ∈ s := by
  have kf : KP (fun t => freeS t = true) o := fits_kp (fun _ _ _ _ hf => hf) (kp_nil _) o h
  have k1 : ∀ v ∈ varsOf other.2, v ∈ o.map (·.1) := fun v hv => by
    have ks := toldW_ks (names := []) ho h (nd_way hl h)
    have : v ∈ (toldW [] o).map (·.1) := by rw [ks]; exact hv
    have e : (o.map fun p => (p.1, nmf (backF []) p.2)).map (·.1) = o.map (·.1) := by rw [List.map_map]; rfl
    rw [← e]
    exact ((items_perm _).map (·.1)).mem_iff.mp this
  refine ⟨k1, fun v hv => ?_, fun a ha => ?_⟩
  · obtain ⟨a, ha, h1, h2⟩ := ho.has v hv
    exact k1 v (mem_varsOf.mpr ⟨h2, a, ha, h1⟩)
  · obtain ⟨f, hf, fit⟩ := (fits_sound h).2 a ha
    rw [← fit.eq kf]
    exact hf
/-! the least question -/
/-- may an atom be left out -/
def Dp (out : List Str) (less atoms : Sto) : Prop := (∀ v ∈ out, v ∈ varsOf less) ∧ less ≠ [] ∧ Wn (out, less) (out, atoms)
open Classical in
noncomputable def leastL (out : List Str) : Sto → Sto → Sto
  | pre, [] => pre
  | pre, a :: suf => if Dp out (pre ++ suf) (pre ++ a :: suf) then leastL out pre suf else leastL out (pre ++ [a]) suf
/-- as many answers, both ways -/
def Eqv (out : List Str) (as bs : Sto) : Prop := Wn (out, as) (out, bs) ∧ Wn (out, bs) (out, as)
theorem Eqv.refl (out : List Str) (as : Sto) : Eqv out as as := ⟨Wn.refl _, Wn.refl _⟩
theorem Eqv.trans {out : List Str} {as bs cs : Sto} (h : Eqv out as bs) (k : Eqv out bs cs) : Eqv out as cs := ⟨h.1.trans k.1, k.2.trans h.2⟩
/-- answers go along ways -/
theorem Wn.answer (w : Wn one other) {s : Sto} {h : Str → Str} (h1 : ∀ a ∈ one.2, ∀ x ∈ a.drop 1, IsWord x → h x = x) (h2 : ∀ a ∈ one.2, chf h a ∈ s) : ∃ k : Str → Str, (∀ a ∈ other.2, ∀ x ∈ a.drop 1, IsWord x → k x = x) ∧ (∀ a ∈ other.2, chf k a ∈ s) ∧ other.1.map k = one.1.map h := by
  obtain ⟨g, g1, g2, g3⟩ := w
  refine ⟨h ∘ g, fun a ha x hx hw => ?_, fun a ha => ?_, ?_⟩
  · show h (g x) = x
    rw [g1 a ha x hx hw]
    refine h1 _ (g2 a ha) x ?_ hw
    rw [chf_drop]
    exact List.mem_map.mpr ⟨x, hx, g1 a ha x hx hw⟩
  · rw [← chf_chf]
    exact h2 _ (g2 a ha)
  · rw [← g3, List.map_map]
end
end DL

/-! mixed values: kinds, looks, sizes -/
namespace DL
open PySem PySem.Spec L2
def isT : D → Bool
  | .tup _ => true
  | _ => false
def isSt : D → Bool
  | .str _ => true
  | _ => false
def isC : D → Bool
  | .str s => wordB s
  | _ => false
def isU : D → Bool
  | .str s => unkB s
  | _ => false
def isVl (d : D) : Bool := isC d || isU d
/-! sizes -/
structure ShL (l : List D) (k w : Nat) : Prop where
  ok : okSL l = true
  dep : PyData.depthAll (pyL l) ≤ k
  le : rlL l ≤ w
theorem ShL.nil (k w : Nat) : ShL [] k w := ⟨rfl, Nat.zero_le _, Nat.zero_le _⟩
theorem ShL.cons {d : D} {l : List D} {k w w2 : Nat} (h : Sh d k w) (h2 : ShL l k w2) : ShL (d :: l) k (w + 2 + w2) := ⟨by
  show (okS d && okSL l) = true
  rw [h.ok, h2.ok]; rfl, by
  have a := h.dep
  have b := h2.dep
  simp only [pyL, PyData.depthAll]
  omega, by
  have a := h.le
  have b := h2.le
  show rl d + 2 + rlL l ≤ _
  omega⟩
theorem ShL.un {d : D} {l : List D} {k w : Nat} (h : ShL (d :: l) k w) : ∃ a b, Sh d k a ∧ ShL l k b ∧ a + 2 + b = w := by
  have h1 : (okS d && okSL l) = true := h.ok
  rw [Bool.and_eq_true] at h1
  have h2 := h.dep
  simp only [pyL, PyData.depthAll] at h2
  have h3 : rl d + 2 + rlL l ≤ w := h.le
  exact ⟨rl d, w - 2 - rl d, ⟨h1.1, by omega, Nat.le_refl _⟩, ⟨h1.2, by omega, by omega⟩, by omega⟩
theorem ShL.mono {l : List D} {k w k' w' : Nat} (h : ShL l k w) (hk : k ≤ k') (hw : w ≤ w') : ShL l k' w' := ⟨h.ok, Nat.le_trans h.dep hk, Nat.le_trans h.le hw⟩
theorem ShL.one {d : D} {k w : Nat} (h : Sh d k w) : ShL [d] k (w + 2) := ShL.cons h (ShL.nil k 0)
theorem ShL.app {k : Nat} : ∀ {a b : List D} {w w2 : Nat}, ShL a k w → ShL b k w2 → ShL (a ++ b) k (w + w2)
  | [], b, w, w2, _, h => h.mono (Nat.le_refl _) (by omega)
  | x :: a, b, w, w2, h1, h2 => by
    obtain ⟨p, q, h3, h4, e⟩ := h1.un
    exact (ShL.cons h3 (h4.app h2)).mono (Nat.le_refl _) (by omega)
theorem ShL.sub {k : Nat} {b : List D} : ∀ {a : List D} {w : Nat}, ShL a k w → b.Sublist a → ShL b k w
  | a, w, h, s => by
    induction s generalizing w with
    | slnil => exact h
    | cons x s ih =>
      obtain ⟨p, q, h3, h4, e⟩ := h.un
      exact (ih _ h4).mono (Nat.le_refl _) (by omega)
    | cons_cons x s ih =>
      obtain ⟨p, q, h3, h4, e⟩ := h.un
      exact (ShL.cons h3 (ih _ h4)).mono (Nat.le_refl _) (by omega)
theorem rl_pos (d : D) : 2 ≤ rl d := by
  cases d <;> simp [rl] <;> omega
theorem rlL_len : ∀ l : List D, 4 * l.length ≤ rlL l
  | [] => Nat.le_refl _
  | d :: l => by
    have := rlL_len l
    have := rl_pos d
    show 4 * (l.length + 1) ≤ rl d + 2 + rlL l
    omega
theorem ShL.len {l : List D} {k w : Nat} (h : ShL l k w) : 4 * l.length ≤ w := Nat.le_trans (rlL_len l) h.le
theorem ShL.split {l : List D} {k w i : Nat} (h : ShL l k w) {d : D} (e : l[i]? = some d) : ∃ a b c, ShL (l.take i) k a ∧ Sh d k b ∧ ShL (l.drop (i + 1)) k c ∧ a + (b + 2) + c = w := by
  induction l generalizing i w with
  | nil => cases e
  | cons x l ih =>
    obtain ⟨p, q, h3, h4, e1⟩ := h.un
    cases i with
    | zero =>
      rw [List.getElem?_cons_zero] at e
      cases e
      exact ⟨0, p, q, ShL.nil _ _, h3, h4, by omega⟩
    | succ i =>
      rw [List.getElem?_cons_succ] at e
      obtain ⟨a, b, c, k1, k2, k3, k4⟩ := ih h4 e
      exact ⟨p + 2 + a, b, c, ShL.cons h3 k1, k2, k3, by omega⟩
theorem ShL.tup {l : List D} {k w : Nat} (h : ShL l k w) : Sh (.tup l) (k + 1) (w + 3) := ⟨h.ok, by
  have := h.dep
  simp only [py, PyData.depth]; omega, by
  have := h.le
  show rlL l + 3 ≤ _
  omega⟩
theorem ShL.lst {l : List D} {k w : Nat} (h : ShL l k w) : Sh (.lst l) (k + 1) (w + 3) := ⟨h.ok, by
  have := h.dep
  simp only [py, PyData.depth]; omega, by
  have := h.le
  show rlL l + 3 ≤ _
  omega⟩
theorem ShL.mem {l : List D} {k w : Nat} (h : ShL l k w) {d : D} (hd : d ∈ l) : Sh d k w := by
  obtain ⟨i, hi, rfl⟩ := List.getElem_of_mem hd
  obtain ⟨a, b, c, _, k2, _, e⟩ := h.split (i := i) (List.getElem?_eq_getElem hi)
  exact k2.mono (Nat.le_refl _) (by omega)
/-- a pair of a name and a value -/
def pairB (p : D) : Bool := match p with
  | .tup [a, b] => isU a && isVl b
  | _ => false
end DL

/-! facts among mixed values -/
namespace DL
open PySem PySem.Spec L2
def isF (d : D) : Bool := match d with
  | .tup (a :: l) => decide (1 ≤ l.length ∧ l.length ≤ 4) && isC a && l.all isVl
  | _ => false
def factS (f : List Str) : Prop := ∃ n ts, f = n :: ts ∧ 1 ≤ ts.length ∧ ts.length ≤ 4 ∧ wordB n = true ∧ ∀ t ∈ ts, svB t = true
theorem svB_vl {t : Str} (h : svB t = true) : Vl t := by
  unfold svB at h
  rw [Bool.or_eq_true] at h
  rcases h with h | h
  · exact (wordB_ok h).vl
  · exact (unkB_unk h).2.vl
theorem factS.ne {f : List Str} (h : factS f) : f ≠ [] := by
  obtain ⟨n, ts, rfl, _⟩ := h
  simp
theorem factS.row {f : List Str} (h : factS f) : f ≠ [] ∧ f.length ≤ 5 ∧ ∀ t ∈ f, Vl t := by
  obtain ⟨n, ts, rfl, h1, h2, h3, h4⟩ := h
  refine ⟨by simp, by simp; omega, fun t ht => ?_⟩
  rcases List.mem_cons.mp ht with rfl | ht
  · exact (wordB_ok h3).vl
  · exact svB_vl (h4 t ht)
/-- widths, as the law notes them -/
def widL : List (Str × Int) → Sto → Bool
  | _, [] => true
  | l, r :: rs => decide (dget l (r.headD (Str.ofString "")) (r.length : Int) = (r.length : Int)) && widL (dput l (r.headD (Str.ofString "")) (r.length : Int)) rs
def headS (d : D) : Str := match d with
  | .tup (.str a :: _) => a
  | _ => Str.ofString ""
def lenT (d : D) : Int := match d with
  | .tup l => l.length
  | _ => 0
def widD : List (Str × Int) → List D → Bool
  | _, [] => true
  | l, r :: rs => isF r && (decide (dget l (headS r) (lenT r) = lenT r) && widD (dput l (headS r) (lenT r)) rs)
end DL

/-! simple values are shown unlike -/
namespace DL
open PySem PySem.Spec L2 PyProof
def simC (c : Nat) : Bool := decide (32 ≤ c) && decide (c < 127) && !decide (c = 39) && !decide (c = 92)
mutual
def sim : D → Bool
  | .non | .bl _ => true
  | .int i => decide (i = 0 ∨ i = 1 ∨ i = 7)
  | .str s => (cpsS s).all simC
  | .tup l | .lst l => simL l
  | _ => false
def simL : List D → Bool
  | [] => true
  | d :: l => sim d && simL l
end
def cd (d : D) : List Nat := cpsS (shw d)
def rsF (f : D → List Nat) : List D → List Nat
  | [] => [41]
  | y :: ys => 44 :: 32 :: (f y ++ rsF f ys)
abbrev rs := rsF cd
/-- what is known of how values are shown -/
structure CDok (f : D → List Nat) : Prop where
  nil : f (.tup []) = [40, 41]
  one : ∀ x, f (.tup [x]) = 40 :: (f x ++ [44, 41])
  more : ∀ x y l, f (.tup (x :: y :: l)) = 40 :: (f x ++ rsF f (y :: l))
  str : ∀ {a}, sim (.str a) = true → f (.str a) = 39 :: (cpsS a ++ [39])
  head : ∀ {z : D}, sim z = true → ∃ c r, f z = c :: r ∧ (c = 39 → ∃ s, z = .str s) ∧ (c = 40 → ∃ l, z = .tup l) ∧ c ≠ 41 ∧ c ≠ 32
  text : ∀ {z : D} {a : Str} {r r' : List Nat}, sim z = true → sim (.str a) = true → f z ++ r = f (.str a) ++ r' → z = .str a ∧ r = r'
section
variable {f : D → List Nat} (F : CDok f)
include F
def SP (p : Str × Str) : Prop := sim (.str p.1) = true ∧ sim (.str p.2) = true
end
end DL

/-! rules and books among mixed values -/
namespace DL
open PySem PySem.Spec L2
def isVD : D → Bool
  | .str s => isVarS s
  | _ => false
def isTm (d : D) : Bool := isVD d || isC d
def tmB (t : Str) : Bool := isVarS t || wordB t
def isAt (d : D) : Bool := match d with
  | .tup (a :: l) => decide (1 ≤ l.length ∧ l.length ≤ 4) && isC a && l.all isTm
  | _ => false
def isAts (d : D) : Bool := match d with
  | .tup l => decide (1 ≤ l.length ∧ l.length ≤ 3) && l.all isAt
  | _ => false
/-- an atom of texts -/
def AtS (f : List Str) : Prop := ∃ n ts, f = n :: ts ∧ 1 ≤ ts.length ∧ ts.length ≤ 4 ∧ wordB n = true ∧ ∀ t ∈ ts, tmB t = true
def AtsS (s : Sto) : Prop := 1 ≤ s.length ∧ s.length ≤ 3 ∧ ∀ f ∈ s, AtS f
theorem tmB_asc {t : Str} (h : tmB t = true) : Asc t := by
  unfold tmB at h
  rw [Bool.or_eq_true] at h
  rcases h with h | h
  · exact asc_var h
  · exact (wordB_ok h).asc
theorem AtS.row {f : List Str} (h : AtS f) : f ≠ [] ∧ f.length ≤ 5 ∧ ∀ t ∈ f, Asc t := by
  obtain ⟨n, ts, rfl, h1, h2, h3, h4⟩ := h
  refine ⟨by simp, by simp; omega, fun t ht => ?_⟩
  rcases List.mem_cons.mp ht with rfl | ht
  · exact (wordB_ok h3).asc
  · exact tmB_asc (h4 t ht)
/-- a pair of atoms as a rule's parts, few variables -/
def shapeB (r : Sto × Sto) : Bool := decide ((varsOf r.1).length ≤ 3) && decide ((varsOf (r.1 ++ r.2)).length ≤ 5)
def isSh (d : D) : Bool := match d with
  | .tup [a, b] => isAts a && (isAts b && match dcP (dcT (dcT dcS)) (dcT (dcT dcS)) d with
    | some r => shapeB r
    | none => false)
  | _ => false
def RlS (r : Sto × Sto) : Prop := AtsS r.1 ∧ AtsS r.2 ∧ shapeB r = true
def bodL (rs : List (Sto × Sto)) : Sto := rs.flatMap (·.1)
def hedL (rs : List (Sto × Sto)) : Sto := rs.flatMap (·.2)
def hdS (f : List Str) : Str := f.headD (Str.ofString "")
instance decWide (s : Sto) : Decidable (∀ f ∈ s, ∀ g ∈ s, f.head? = g.head? → f.length = g.length) := inferInstance
/-- rules that go together -/
def FitS (rs : List (Sto × Sto)) : Prop := (∀ f ∈ bodL rs ++ hedL rs, ∀ g ∈ bodL rs ++ hedL rs, f.head? = g.head? → f.length = g.length) ∧ ∀ a ∈ bodL rs, hdS a ∉ (hedL rs).map hdS
instance (rs : List (Sto × Sto)) : Decidable (FitS rs) := inferInstanceAs (Decidable (_ ∧ _))
def fitB (rs : List (Sto × Sto)) : Bool := decide (FitS rs)
theorem FitS.one {rs : List (Sto × Sto)} (h : FitS rs) {r : Sto × Sto} (hr : r ∈ rs) : FitS [r] := by
  have b : ∀ f ∈ bodL [r], f ∈ bodL rs := fun f hf => by
    unfold bodL at *
    simp only [List.flatMap_cons, List.flatMap_nil, List.append_nil] at hf
    exact List.mem_flatMap.mpr ⟨r, hr, hf⟩
  have d : ∀ f ∈ hedL [r], f ∈ hedL rs := fun f hf => by
    unfold hedL at *
    simp only [List.flatMap_cons, List.flatMap_nil, List.append_nil] at hf
    exact List.mem_flatMap.mpr ⟨r, hr, hf⟩
  have m : ∀ f ∈ bodL [r] ++ hedL [r], f ∈ bodL rs ++ hedL rs := fun f hf => (List.mem_append.mp hf).elim (fun z => List.mem_append_left _ (b f z)) fun z => List.mem_append_right _ (d f z)
  refine ⟨fun f hf g hg => h.1 f (m f hf) g (m g hg), fun a ha z => h.2 a (b a ha) ?_⟩
  obtain ⟨x, hx, e⟩ := List.mem_map.mp z
  exact List.mem_map.mpr ⟨x, d x hx, e⟩
/-- what a rule is -/
def ruleV (d : D) : Bool := isSh d && match dcP (dcT (dcT dcS)) (dcT (dcT dcS)) d with
  | some r => fitB [r]
  | none => false
/-- .. rules -/
def rulesV (l : List D) : Bool := l.all isSh && match dcA (dcP (dcT (dcT dcS)) (dcT (dcT dcS))) l with
  | some rs => fitB rs
  | none => false
end DL

/-! texts: joined, split -/
namespace DL
open PySem PySem.Spec L2 TL
/-- the line of a row of words -/
def lineF (f : List Str) : Str := Txt.join (mkS [32]) f
/-- the text of rows -/
def textF (s : List (List Str)) : Str := mkS ((s.map fun f => cpsS (lineF f) ++ [10]).flatten)
end DL

/-! sorts that the kernel can run -/
namespace DL
open PySem PySem.Spec L2
section
variable {α : Type}
def insB (le : α → α → Bool) (a : α) : List α → List α
  | [] => [a]
  | b :: l => if le a b = true then a :: b :: l else b :: insB le a l
def isort (le : α → α → Bool) : List α → List α
  | [] => []
  | a :: l => insB le a (isort le l)
end
def Pg.ssetC (l : List Str) : Pg (List Str) := Pg.req (l.length + 1 < 4096) (.ret (isort St.leS (St.dedupS l)))
def Pg.ssetRC (rs : List (List Str)) : Pg (List (List Str)) := Pg.req ((Rs.dedupR rs).length ≤ 4000 ∧ (rs.all (fun r => !r.isEmpty) || decide ((Rs.dedupR rs).length ≤ 1)) = true) (.ret (isort Rs.leR (Rs.dedupR rs)))
def Pg.sortRC (l : List (List Str)) : Pg (List (List Str)) := Pg.req (srtOk (l.map (eT D.str)) = true) (.ret (isort Rs.leR l))
def Pg.sortIC (l : List (Str × Str)) : Pg (List (Str × Str)) := Pg.req (srtOk (l.map (eP D.str D.str)) = true ∧ l.all (fun p => PyData.strOk p.1) = true) (.ret (isort (fun a b => !ltPr ltS ltS b a) l))
end DL

/-! what comes of isomorphic sources is isomorphic -/
namespace DL
open PySem PySem.Spec L2
def mapH (h : Str → Str) (o : Nm) : Nm := o.map fun q => (q.1, h q.2)
def mapW (h : Str → Str) (W : List Wy) : List Wy := W.map fun p => (p.1, mapH h p.2)
noncomputable def mkG (W : List Wy) (ν g : Nat → Str → Str) (h : Str → Str) (x : Str) : Str :=
  open Classical in if h0 : ∃ p : Nat × Str, NewV W p.1 p.2 ∧ ν p.1 p.2 = x then g h0.choose.1 h0.choose.2 else h x
end DL

/-! what comes of sources that lead to one another; how much comes -/
namespace DL
open PySem PySem.Spec L2
/-- no value is a name that is new -/
def Fresh (b : Book') (src : Sto) : Prop := ∀ v ∈ valsOf src, ∀ j : Int, 1 ≤ j → j ≤ (comeF b src).2 → unkT j ≠ v
section
variable {b : Book'} {src src2 : Sto}
end
/-- a text of the law's letters alone -/
def Lw2 (w : Str) : Prop := ∀ c ∈ cpsS w, c ∈ [97, 98, 99, 109, 121, 122, 113]
end DL

/-! things in the store: what is made, stored and read -/
namespace DL
open PySem PySem.Spec L2
section
variable {α β γ : Type} {e : α → D} {n : Gn} {a : Addr} {x f : Str} {fs : List (Str × D)} {d : D} {Q : β → Gn → Prop} {X : XD → Gn → Prop} {p m : Pg β}
theorem newL_wp {ys : List α} {Q : Addr → Gn → Prop} (hl : lfL (ys.map e) = true) (q : ∀ a, ¬ Mu n a → Q a (n.add a (.lst (ys.map e)))) : Pg.wp (Pg.newL e ys) n Q X := ⟨hl, fun a ha => q a ha⟩
end
end DL

namespace DL
open PySem PySem.Spec L2
def topS (i : Nat) : Stmt := PySem.Challenge.pw_corestore_k31_errors_made_by_hand.main.body.getD i (.Pass ⟨0, 0, 0, 0⟩)
abbrev s_law_deck : Stmt := topS 9
theorem sc_law_deck : FnScope ["_law_script"] ["_law_script"] (defScope s_law_deck) := ⟨rfl, rfl, rfl, by decide +kernel, rfl, by decide +kernel, by decide +kernel⟩
theorem ok_law_deck {P : Program} {w : World} {K : PySem.W.Frag} {mg : Str → Option Value} {base : Heap} {f : Addr} {fd : FuncData} {k : Nat} (F : Fun K "_law_deck" "_law_deck" s_law_deck f fd) (ml : mg "list" = none) : FnOk P w K mg base CX0 (k + 1) f fd ["_law_script"] (spDeck K) := by
  refine F.ok sc_law_deck (fun vs H Q E h => by obtain ⟨a, ns, e, _⟩ := h; rw [e]; rfl) (fun cdv A outer s0 H vs Q E hr h => ?_)
  obtain ⟨a, ns, e, hs, q⟩ := deck_end h
  subst e
  refine ⟨_, pss_one (ps_ret (pe_lst (pa_cons (pe_callTy call_list_of (by rfl) ml (by decide +kernel) (pa_cons (pe_slice sl_list (pv 0) po_none (po_some pe_int)) pa_nil)) (pa_cons pe_int (pa_cons pe_int (pa_cons pe_int pa_nil)))))), ?_⟩
  exact ⟨.ref a, rfl, 63, rfl, a, _, rfl, hs, fun c hc => ⟨c, _, rfl, .inl (SqL.of upd_same), fun l hl => ⟨by show 4 ≤ sizeLine; decide, fun p hp => q c hc l hl p hp⟩⟩⟩

abbrev sDraw : Stmt := topS 10
theorem scDraw : FnScope ["_law_deck_here", "_law_many", "_law_found", "_law_cell", "_law_mixed"] ["_law_deck_here", "_law_many"] (defScope sDraw) := ⟨rfl, rfl, rfl, by decide +kernel, rfl, by decide +kernel, by decide +kernel⟩
theorem ok_law_draw {P : Program} {w : World} {K : PySem.W.Frag} {mg : Str → Option Value} {base : Heap} {f : Addr} {fd : FuncData} {k : Nat} (F : Fun K "_law_draw" "_law_draw" sDraw f fd) (hx : mg "_law_draw" = some (.ref f)) (hb : Binds K fd ["_law_deck_here", "_law_many"] [])
    (mi : mg "int" = none) (ml : mg "len" = none) (ma : mg "abs" = none) : FOk P w K mg base (k + 1) ⟨"_law_draw", 2, drawM⟩ := by
  refine ⟨f, fd, _, hx, F.okX scDraw (fun vs H Q E h => h.1) (fun cdv A outer s0 H vs Q E hr h => ?_), F.kp, hb⟩
  obtain ⟨p, s, ns, i, l, j, m, e0, nps, hp, hs, hlen, hi, hl, hj, hj1, hm, hm2, fin⟩ := draw_end h
  subst e0
  refine ⟨_, pss_cons (ps_asg (pe_op op_add (pe_ix ix_list (pv 0) (pe_int) (fun _ _ => rfl)) (pe_int)) (pg_sub (pv 0) pe_int set_list)) (pss_cons (ps_if (pt_cmpR op_gt (pe_ix ix_list (pv 0) (pe_int) (fun _ _ => rfl)) (pe_int) (nomark _)) (pss_cons (ps_set (i := 2) scDraw.nd rfl (.inl rfl) (pe_op op_mod (pe_callTy call_int1 (by rfl) mi (by decide +kernel) (pa_cons (pe_ix ix_list (pv 0) (pe_int) (fun _ _ => rfl)) pa_nil)) (pv 1))) (pss_cons (ps_asg (pe_op op_fdiv (pe_ix ix_list (pv 0) (pe_int) (fun _ _ => rfl)) (pv 1)) (pg_sub (pv 0) pe_int set_list)) (pss_one (ps_ret (pv 2))))) pss_nil) (pss_cons (ps_set (i := 3) scDraw.nd rfl (.inl rfl) (pe_int)) (pss_cons (ps_if (pt_cmpR (op_neD (by have := hr.units; exact this)) (pe_ix ix_list (pv 0) (pe_int) (fun _ _ => rfl)) (pe_lst pa_nil) (nomark _)) (pss_one (ps_set (i := 3) scDraw.nd rfl (.inl rfl) (pe_ix ix_list (pe_ix ix_list (pv 0) (pe_int) (fun _ _ => rfl)) (pe_op op_mod (pe_callTy call_int1 (by rfl) mi (by decide +kernel) (pa_cons (pe_ix ix_list (pv 0) (pe_int) (fun _ _ => rfl)) pa_nil)) (pe_callB call_lenAll (by rfl) ml PySem.boot_len (pa_cons (pe_ix ix_list (pv 0) (pe_int) (fun _ _ => rfl)) pa_nil))) (fun _ _ => rfl)))) pss_nil) (pss_cons (ps_asg (pe_op op_add (pe_ix ix_list (pv 0) (pe_int) (fun _ _ => rfl)) (pe_int)) (pg_sub (pv 0) pe_int set_list)) (pss_cons (ps_if (PW.pt (pw_and (pt_cmpR op_ge (pe_callB call_abs (by rfl) ma (by decide +kernel) (pa_cons (pv 3) pa_nil)) (pe_op op_pow pe_int pe_int) (nomark _)) (pw_and1 (pt_cmpR op_le (pe_ix ix_list (pv 0) (pe_int) (fun _ _ => rfl)) (pe_callB call_lenAll (by rfl) ml PySem.boot_len (pa_cons (pe_ix ix_list (pv 0) (pe_int) (fun _ _ => rfl)) pa_nil)) (nomark _))))) (pss_cons (ps_asg (pe_op op_fdiv (pe_callB call_abs (by rfl) ma (by decide +kernel) (pa_cons (pv 3) pa_nil)) (pv 1)) (pg_sub (pv 0) pe_int set_list)) (pss_one (ps_ret (pe_op op_mod (pe_callTy call_int1 (by rfl) mi (by decide +kernel) (pa_cons (pe_callB call_abs (by rfl) ma (by decide +kernel) (pa_cons (pv 3) pa_nil)) pa_nil)) (pv 1))))) pss_nil) (pss_cons (ps_set (i := 4) scDraw.nd rfl (.inl rfl) (pe_op op_mod (pe_op op_pow (pe_callTy call_int1 (by rfl) mi (by decide +kernel) (pa_cons (pe_op op_add (pe_op op_mod (pe_callTy call_int1 (by rfl) mi (by decide +kernel) (pa_cons (pv 3) pa_nil)) (pe_int)) (pe_op op_mul (pe_int) (pe_ix ix_list (pv 0) (pe_int) (fun _ _ => rfl)))) pa_nil)) (pe_int)) (pe_int))) (pss_cons (ps_set (i := 4) scDraw.nd rfl (.inl rfl) (pe_op op_mod (pe_op op_pow (pe_callTy call_int1 (by rfl) mi (by decide +kernel) (pa_cons (pe_op op_add (pe_op op_mul (pv 4) (pe_op op_add (pe_op op_mul (pe_int) (pe_ix ix_list (pv 0) (pe_int) (fun _ _ => rfl))) (pe_int))) (pe_int)) pa_nil)) (pe_int)) (pe_int))) (pss_one (ps_ret (pe_op op_mod (pe_op op_fdiv (pv 4) (pe_int)) (pv 1))))))))))), ?_⟩
  -- the count
  refine ⟨.ref p, rfl, p, _, 3, .int j, rfl, rfl, SqL.of hp, rfl, j, 1, rfl, rfl, .ref p, rfl, p, _, 3, 3, rfl, rfl, hp, rfl, ?_⟩
  have h1 : (upd H p (HO.lst ([V.ref s, V.int i, V.int l, V.int j].set 3 (V.int (j + 1))))) p = some (.lst [.ref s, .int i, .int l, .int (j + 1)]) := upd_same
  have o1 : ∀ a o, a ≠ p → H a = some o → (upd H p (HO.lst ([V.ref s, V.int i, V.int l, V.int j].set 3 (V.int (j + 1))))) a = some o := fun a o z z2 => (upd_ne z).trans z2
  revert h1 o1
  generalize upd H p (HO.lst ([V.ref s, V.int i, V.int l, V.int j].set 3 (V.int (j + 1)))) = H1
  intro h1 o1
  have s1 := o1 s _ nps hs
  -- a rest
  refine ⟨.ref p, rfl, p, _, 2, .int l, rfl, rfl, SqL.of h1, rfl, l, 0, rfl, rfl, _, rfl, ite2 (fun e => ?_) (fun e => ?_)⟩
  · have e := of_decide_eq_true e
    refine ⟨.ref p, rfl, p, _, 2, .int l, rfl, rfl, SqL.of h1, rfl, .inl ⟨l, rfl, .int m, rfl, l, m, rfl, rfl, hm, ?_⟩⟩
    refine ⟨.ref p, rfl, p, _, 2, .int l, rfl, rfl, SqL.of h1, rfl, .int m, rfl, l, m, rfl, rfl, ⟨hm, hm2⟩, .ref p, rfl, p, _, 2, 2, rfl, rfl, h1, rfl, ?_⟩
    exact ⟨.int (l % m), rfl, fin _ i (l / m) (l % m) upd_same (fun a o z z2 => (upd_ne z).trans (o1 a o z z2)) hi (Int.ediv_nonneg (by omega) (by omega)) (Int.emod_nonneg _ (by omega)) (Int.emod_lt_of_pos _ hm)⟩
  -- the cell
  refine ⟨.ref p, rfl, p, _, 0, .ref s, rfl, rfl, SqL.of h1, rfl, Nat.zero_le _, fun t nt => ?_⟩
  have ntp : t ≠ p := fun z => by rw [z, h1] at nt; cases nt
  have nts : t ≠ s := fun z => by rw [z, s1] at nt; cases nt
  have h2 : (upd H1 t (HO.lst [])) p = some (.lst [.ref s, .int i, .int l, .int (j + 1)]) := (upd_ne ntp.symm).trans h1
  have o2 : (upd H1 t (HO.lst [])) s = some (.lst (ns.map V.int)) := (upd_ne nts.symm).trans s1
  have t2 : (upd H1 t (HO.lst [])) t = some (.lst []) := upd_same
  have oa : ∀ a o, a ≠ p → H a = some o → (upd H1 t (HO.lst [])) a = some o := fun a o z z2 => (upd_ne fun z3 => by have z4 := o1 a o z z2; rw [z3, nt] at z4; cases z4).trans (o1 a o z z2)
  revert h2 o2 t2 oa
  generalize upd H1 t (HO.lst []) = H2
  intro h2 o2 t2 oa
  refine ⟨.list (ns.map PyData.int), .list [], ints_dp o2, .lst (SqL.of t2) .nil, shaped_ints ns, by decide +kernel, _, rfl, ite2 (fun e => ?ca) (fun e => ?cb)⟩
  case' ca => (
    have hne : ns ≠ [] := fun z => by subst z; exact Bool.noConfusion e
    have hpos : 0 < (ns.length : Int) := by
      cases ns with
      | nil => exact absurd rfl hne
      | cons _ _ => simp only [List.length_cons]; omega
    obtain ⟨z, hz⟩ : ∃ z, atI (ns.map V.int) (i % (ns.length : Int)) = some (.int z) := draw_cell hi hpos
    refine ⟨.ref p, rfl, p, _, 0, .ref s, rfl, rfl, SqL.of h2, rfl, .ref p, rfl, p, _, 1, .int i, rfl, rfl, SqL.of h2, rfl, .inl ⟨i, rfl, .ref p, rfl, p, _, 0, .ref s, rfl, rfl, SqL.of h2, rfl, .inl ⟨.ref s, _, rfl, .inl ⟨_, SqL.of o2, rfl⟩, i, _, rfl, rfl, by rw [List.length_map]; exact hpos, s, _, _, _, rfl, rfl, SqL.of o2, by rw [List.length_map]; exact hz, ?_⟩⟩⟩)
  all_goals (
    refine ⟨.ref p, rfl, p, _, 1, .int i, rfl, rfl, SqL.of h2, rfl, i, 1, rfl, rfl, .ref p, rfl, p, _, 1, 1, rfl, rfl, h2, rfl, ?_⟩
    have h3 : (upd H2 p (HO.lst ([V.ref s, V.int i, V.int l, V.int (j + 1)].set 1 (V.int (i + 1))))) p = some (.lst [.ref s, .int (i + 1), .int l, .int (j + 1)]) := upd_same
    have o3 : ∀ a o, a ≠ p → H a = some o → (upd H2 p (HO.lst ([V.ref s, V.int i, V.int l, V.int (j + 1)].set 1 (V.int (i + 1))))) a = some o := fun a o z z2 => (upd_ne z).trans (oa a o z z2)
    revert h3 o3
    generalize upd H2 p (HO.lst ([V.ref s, V.int i, V.int l, V.int (j + 1)].set 1 (V.int (i + 1)))) = H3
    intro h3 o3
    have s3 := o3 s _ nps hs
    refine ⟨_, rfl, _, rfl, 10, 18, rfl, rfl, ⟨by decide, by decide, by decide⟩, _, _, rfl, rfl, _, rfl, ite2 (fun e1 => ?_) (fun e1 => ?_)⟩
    all_goals first
      | (refine ⟨.ref p, rfl, p, _, 1, .int (i + 1), rfl, rfl, SqL.of h3, rfl, .ref p, rfl, p, _, 0, .ref s, rfl, rfl, SqL.of h3, rfl, .inl ⟨.ref s, _, rfl, .inl ⟨_, SqL.of s3, rfl⟩, _, _, rfl, rfl, _, rfl, ite2 (fun e2 => ?_) (fun e2 => ?_)⟩⟩
         all_goals first
           | (refine ⟨_, rfl, _, rfl, .int m, rfl, _, m, rfl, rfl, ⟨hm, hm2⟩, .ref p, rfl, p, _, 2, 2, rfl, rfl, h3, rfl, ?_⟩
              refine ⟨_, rfl, _, rfl, .inl ⟨_, rfl, .int m, rfl, _, m, rfl, rfl, hm, ?_⟩⟩
              exact fin _ (i + 1) _ _ upd_same (fun a o z z2 => (upd_ne z).trans (o3 a o z z2)) (by omega) (Int.ediv_nonneg (by split <;> omega) (by omega)) (Int.emod_nonneg _ (by omega)) (Int.emod_lt_of_pos _ hm))
           | skip)
      | skip
    all_goals (
      refine ⟨_, rfl, .inl ⟨_, rfl, _, 2147483579, rfl, rfl, (show (0 : Int) < 2147483579 by decide), .ref p, rfl, p, _, 3, .int (j + 1), rfl, rfl, SqL.of h3, rfl, 73856093, j + 1, rfl, rfl, .inl ⟨by decide, by decide⟩, _, _, rfl, rfl, .inl ⟨_, rfl, _, 5, rfl, rfl, ⟨by decide, by decide, mix1 hj hj1⟩, _, 2147483629, rfl, rfl, (show (0 : Int) < 2147483629 by decide), ?_⟩⟩⟩
      refine ⟨_, rfl, .ref p, rfl, p, _, 3, .int (j + 1), rfl, rfl, SqL.of h3, rfl, 2, j + 1, rfl, rfl, .inl ⟨by decide, by decide⟩, _, 7, rfl, rfl, _, _, rfl, rfl, .inl (small_mod (by decide) (by decide)), _, 6151, rfl, rfl, .inl ⟨_, rfl, _, 3, rfl, rfl, ⟨by decide, by decide, mix2 hj hj1⟩, _, 2147483647, rfl, rfl, (show (0 : Int) < 2147483647 by decide), ?_⟩⟩
      refine ⟨_, rfl, _, 32, rfl, rfl, ⟨by decide, by decide⟩, .int m, rfl, _, m, rfl, rfl, hm, ?_⟩
      exact fin _ (i + 1) l _ h3 o3 (by omega) hl (Int.emod_nonneg _ (by omega)) (Int.emod_lt_of_pos _ hm)))

def d_law_one : DS := (seqS
 (retS (bin2 (vS 1) (callT drawM (consA (vS 0) (consA (un1 (vS 1) lenD) nilA))) ixD))
 skipS)
def m_law_one : MD := defM 2 d_law_one
abbrev s_law_one : Stmt := topS 11
theorem sc_law_one : FnScope ["_law_deck_here", "_law_items"] ["_law_deck_here", "_law_items"] (defScope s_law_one) := ⟨rfl, rfl, rfl, by decide +kernel, rfl, by decide +kernel, by decide +kernel⟩
theorem ok_law_one {P : Program} {w : World} {K : PySem.W.Frag} {mg : Str → Option Value} {base : Heap} {f : Addr} {fd : FuncData} {k : Nat} (F : Fun K "_law_one" "_law_one" s_law_one f fd) (hx : mg "_law_one" = some (.ref f)) (hb : Binds K fd ["_law_deck_here", "_law_items"] []) (h_law_draw : FOk P w K mg base k ⟨"_law_draw", 2, drawM⟩) (z_len : mg "len" = none) : FOk P w K mg base (k + 1) ⟨"_law_one", 2, m_law_one⟩ :=
  fok F sc_law_one hx hb rfl (by decide) fun X c hK hm G hf hp => s_cons (s_ret (e_ix G (pW_S (e_v G 1 (by decide +kernel))) (pW_S (e_def G (h_law_draw.at hK hm) (by decide +kernel) (pa_consS (e_v G 0 (by decide +kernel)) (pa_consS (e_callB G (c_len G) (by decide +kernel) (mgz hm z_len) (by decide +kernel) (pW_S (e_v G 1 (by decide +kernel))) rfl) (pa_nil') rfl) rfl) rfl rfl)) (fun _ _ => rfl)))
 (s_nil)

def d_law_odd : DS := (seqS
 (asgS 1 (lstT (consA (kD .non) (consA (kD (.bl true)) (consA (kD (.bl false)) (consA (kD (.int 0)) (consA (kD (.int 1)) (consA (kD (.int 7)) (consA (kD (.str "")) (consA (kD (.str "a")) (consA (kD (.str "A")) (consA (kD (.str "?")) (consA (kD (.str "?0")) (consA (kD (.str "?1")) (consA (kD (.str "?01")) (consA (kD (.str "?123456")) (consA (kD (.str "a1")) (consA (kD (.str "aB")) (consA (kD (.str "abcdefghi")) (consA (kD (.str "a b")) nilA))))))))))))))))))))
 (seqS
 (asgS 1 (bin2 (vS 1) (lstT (consA (tupT nilA) (consA (stoT (lstT nilA)) (consA (tupT (consA (kD (.str "a")) nilA)) (consA (tupT (consA (kD (.str "a")) (consA (kD (.str "b")) nilA))) (consA (stoT (lstT (consA (kD (.str "a")) (consA (kD (.str "b")) nilA)))) (consA (tupT (consA (kD (.str "a")) (consA (kD (.str "?1")) nilA))) (consA (tupT (consA (kD (.str "a")) (consA (kD (.str "A")) nilA))) (consA (tupT (consA (tupT (consA (kD (.str "a")) (consA (kD (.str "b")) nilA))) nilA)) (consA (tupT (consA (kD (.str "?1")) (consA (kD (.str "a")) nilA))) nilA)))))))))) addD))
 (seqS
 (retS (callT m_law_one (consA (vS 0) (consA (bin2 (vS 1) (lstT (consA (tupT (consA (kD (.str "a")) (consA (tupT (consA (kD (.str "b")) nilA)) nilA))) (consA (tupT (consA (kD (.str "a")) (consA (kD (.str "b")) (consA (kD (.str "c")) (consA (kD (.str "d")) (consA (kD (.str "e")) (consA (kD (.str "f")) nilA))))))) (consA (tupT (consA (kD (.str "a")) (consA (kD (.int 1)) nilA))) (consA (kD (.str "zz")) (consA (kD (.str "?x")) (consA (tupT (consA (kD (.str "")) (consA (kD (.str "a")) nilA))) nilA))))))) addD) nilA))))
 skipS)))
def m_law_odd : MD := defM 2 d_law_odd
abbrev s_law_odd : Stmt := topS 12
theorem sc_law_odd : FnScope ["_law_deck_here", "_law_some"] ["_law_deck_here"] (defScope s_law_odd) := ⟨rfl, rfl, rfl, by decide +kernel, rfl, by decide +kernel, by decide +kernel⟩
theorem ok_law_odd {P : Program} {w : World} {K : PySem.W.Frag} {mg : Str → Option Value} {base : Heap} {f : Addr} {fd : FuncData} {k : Nat} (F : Fun K "_law_odd" "_law_odd" s_law_odd f fd) (hx : mg "_law_odd" = some (.ref f)) (hb : Binds K fd ["_law_deck_here"] []) (h_law_one : FOk P w K mg base k ⟨"_law_one", 2, m_law_one⟩) : FOk P w K mg base (k + 1) ⟨"_law_odd", 1, m_law_odd⟩ :=
  fok F sc_law_odd hx hb rfl (by decide) fun X c hK hm G hf hp => s_cons (s_asg G hf (by decide +kernel) (pS_F (pe_lst' (pa_consS (e_non) (pa_consS (e_bl) (pa_consS (e_bl) (pa_consS (e_int) (pa_consS (e_int) (pa_consS (e_int) (pa_consS (e_str (by decide +kernel)) (pa_consS (e_str (by decide +kernel)) (pa_consS (e_str (by decide +kernel)) (pa_consS (e_str (by decide +kernel)) (pa_consS (e_str (by decide +kernel)) (pa_consS (e_str (by decide +kernel)) (pa_consS (e_str (by decide +kernel)) (pa_consS (e_str (by decide +kernel)) (pa_consS (e_str (by decide +kernel)) (pa_consS (e_str (by decide +kernel)) (pa_consS (e_str (by decide +kernel)) (pa_consS (e_str (by decide +kernel)) (pa_nil') rfl) rfl) rfl) rfl) rfl) rfl) rfl) rfl) rfl) rfl) rfl) rfl) rfl) rfl) rfl) rfl) rfl) rfl))) rfl)
 (s_cons (s_asg G hf (by decide +kernel) (e_add G (pW_S (e_v G 1 (by decide +kernel))) (pW_F (pe_lst' (pa_consS (pe_tup' (pa_nil')) (pa_consS (e_sto (pe_lst' (pa_nil'))) (pa_consS (pe_tup' (pa_consS (e_str (by decide +kernel)) (pa_nil') rfl)) (pa_consS (pe_tup' (pa_consS (e_str (by decide +kernel)) (pa_consS (e_str (by decide +kernel)) (pa_nil') rfl) rfl)) (pa_consS (e_sto (pe_lst' (pa_consS (e_str (by decide +kernel)) (pa_consS (e_str (by decide +kernel)) (pa_nil') rfl) rfl))) (pa_consS (pe_tup' (pa_consS (e_str (by decide +kernel)) (pa_consS (e_str (by decide +kernel)) (pa_nil') rfl) rfl)) (pa_consS (pe_tup' (pa_consS (e_str (by decide +kernel)) (pa_consS (e_str (by decide +kernel)) (pa_nil') rfl) rfl)) (pa_consS (pe_tup' (pa_consS (pe_tup' (pa_consS (e_str (by decide +kernel)) (pa_consS (e_str (by decide +kernel)) (pa_nil') rfl) rfl)) (pa_nil') rfl)) (pa_consS (pe_tup' (pa_consS (e_str (by decide +kernel)) (pa_consS (e_str (by decide +kernel)) (pa_nil') rfl) rfl)) (pa_nil') rfl) rfl) rfl) rfl) rfl) rfl) rfl) rfl) rfl)))) rfl)
 (s_cons (s_ret (e_def G (h_law_one.at hK hm) (by decide +kernel) (pa_consS (e_v G 0 (by decide +kernel)) (pa_consS (e_add G (pW_S (e_v G 1 (by decide +kernel))) (pW_F (pe_lst' (pa_consS (pe_tup' (pa_consS (e_str (by decide +kernel)) (pa_consS (pe_tup' (pa_consS (e_str (by decide +kernel)) (pa_nil') rfl)) (pa_nil') rfl) rfl)) (pa_consS (pe_tup' (pa_consS (e_str (by decide +kernel)) (pa_consS (e_str (by decide +kernel)) (pa_consS (e_str (by decide +kernel)) (pa_consS (e_str (by decide +kernel)) (pa_consS (e_str (by decide +kernel)) (pa_consS (e_str (by decide +kernel)) (pa_nil') rfl) rfl) rfl) rfl) rfl) rfl)) (pa_consS (pe_tup' (pa_consS (e_str (by decide +kernel)) (pa_consS (e_int) (pa_nil') rfl) rfl)) (pa_consS (e_str (by decide +kernel)) (pa_consS (e_str (by decide +kernel)) (pa_consS (pe_tup' (pa_consS (e_str (by decide +kernel)) (pa_consS (e_str (by decide +kernel)) (pa_nil') rfl) rfl)) (pa_nil') rfl) rfl) rfl) rfl) rfl) rfl)))) (pa_nil') rfl) rfl) rfl rfl))
 (s_nil)))

def d_law_classes : DS := (seqS
 (asgS 1 (lstT (consA (un1 (vS 0) (isOD (tbl ["Clash"] ["Clash", "BadSource", "BadFact", "NoFact", "NothingDone", "BadText"]))) (consA (un1 (vS 0) (isOD (tbl ["BadSource"] ["Clash", "BadSource", "BadFact", "NoFact", "NothingDone", "BadText"]))) (consA (un1 (vS 0) (isOD (tbl ["BadFact"] ["Clash", "BadSource", "BadFact", "NoFact", "NothingDone", "BadText"]))) (consA (un1 (vS 0) (isOD (tbl ["NoFact"] ["Clash", "BadSource", "BadFact", "NoFact", "NothingDone", "BadText"]))) nilA))))))
 (seqS
 (asgS 1 (bin2 (vS 1) (lstT (consA (un1 (vS 0) (isOD (tbl ["NothingDone"] ["Clash", "BadSource", "BadFact", "NoFact", "NothingDone", "BadText"]))) (consA (un1 (vS 0) (isOD (tbl ["BadText"] ["Clash", "BadSource", "BadFact", "NoFact", "NothingDone", "BadText"]))) nilA))) addD))
 (seqS
 (retS (bin2 (vS 1) (lstT (consA (un1 (vS 0) (isOD (tbl ["Clash", "BadSource", "BadFact", "NoFact", "NothingDone", "BadText"] ["Clash", "BadSource", "BadFact", "NoFact", "NothingDone", "BadText"]))) (consA (un1 (vS 0) (isOD (tbl ["Clash", "BadSource", "BadFact", "NoFact", "NothingDone", "BadText"] ["Clash", "BadSource", "BadFact", "NoFact", "NothingDone", "BadText"]))) nilA))) addD))
 skipS)))
def m_law_classes : MD := defM 2 d_law_classes
abbrev s_law_classes : Stmt := topS 13
theorem sc_law_classes : FnScope ["_law_e", "_law_some"] ["_law_e"] (defScope s_law_classes) := ⟨rfl, rfl, rfl, by decide +kernel, rfl, by decide +kernel, by decide +kernel⟩
theorem ok_law_classes {P : Program} {w : World} {K : PySem.W.Frag} {mg : Str → Option Value} {base : Heap} {f : Addr} {fd : FuncData} {k : Nat} (F : Fun K "_law_classes" "_law_classes" s_law_classes f fd) (hx : mg "_law_classes" = some (.ref f)) (hb : Binds K fd ["_law_e"] []) (z_isinstance : mg "isinstance" = none) (z_ValueError : mg "ValueError" = none) (eo_Clash : ExBo K mg "Clash" (tbl ["Clash"] ["Clash", "BadSource", "BadFact", "NoFact", "NothingDone", "BadText"])) (eo_BadSource : ExBo K mg "BadSource" (tbl ["BadSource"] ["Clash", "BadSource", "BadFact", "NoFact", "NothingDone", "BadText"])) (eo_BadFact : ExBo K mg "BadFact" (tbl ["BadFact"] ["Clash", "BadSource", "BadFact", "NoFact", "NothingDone", "BadText"])) (eo_NoFact : ExBo K mg "NoFact" (tbl ["NoFact"] ["Clash", "BadSource", "BadFact", "NoFact", "NothingDone", "BadText"])) (eo_NothingDone : ExBo K mg "NothingDone" (tbl ["NothingDone"] ["Clash", "BadSource", "BadFact", "NoFact", "NothingDone", "BadText"])) (eo_BadText : ExBo K mg "BadText" (tbl ["BadText"] ["Clash", "BadSource", "BadFact", "NoFact", "NothingDone", "BadText"])) (eo_CoreError : ExBo K mg "CoreError" (tbl ["Clash", "BadSource", "BadFact", "NoFact", "NothingDone", "BadText"] ["Clash", "BadSource", "BadFact", "NoFact", "NothingDone", "BadText"])) (et_ValueError : ExB K (.type "ValueError") (tbl ["Clash", "BadSource", "BadFact", "NoFact", "NothingDone", "BadText"] ["Clash", "BadSource", "BadFact", "NoFact", "NothingDone", "BadText"])) : FOk P w K mg base (k + 1) ⟨"_law_classes", 1, m_law_classes⟩ :=
  fok F sc_law_classes hx hb rfl (by decide) fun X c hK hm G hf hp => s_cons (s_asg G hf (by decide +kernel) (pS_F (pe_lst' (pa_consS (e_isO G (eo_Clash.at_ hK hm) (mgz hm z_isinstance) (by decide +kernel) (e_v G 0 (by decide +kernel)) (by decide +kernel) rfl rfl) (pa_consS (e_isO G (eo_BadSource.at_ hK hm) (mgz hm z_isinstance) (by decide +kernel) (e_v G 0 (by decide +kernel)) (by decide +kernel) rfl rfl) (pa_consS (e_isO G (eo_BadFact.at_ hK hm) (mgz hm z_isinstance) (by decide +kernel) (e_v G 0 (by decide +kernel)) (by decide +kernel) rfl rfl) (pa_consS (e_isO G (eo_NoFact.at_ hK hm) (mgz hm z_isinstance) (by decide +kernel) (e_v G 0 (by decide +kernel)) (by decide +kernel) rfl rfl) (pa_nil') rfl) rfl) rfl) rfl))) rfl)
 (s_cons (s_asg G hf (by decide +kernel) (e_add G (pW_S (e_v G 1 (by decide +kernel))) (pW_F (pe_lst' (pa_consS (e_isO G (eo_NothingDone.at_ hK hm) (mgz hm z_isinstance) (by decide +kernel) (e_v G 0 (by decide +kernel)) (by decide +kernel) rfl rfl) (pa_consS (e_isO G (eo_BadText.at_ hK hm) (mgz hm z_isinstance) (by decide +kernel) (e_v G 0 (by decide +kernel)) (by decide +kernel) rfl rfl) (pa_nil') rfl) rfl)))) rfl)
 (s_cons (s_ret (e_add G (pW_S (e_v G 1 (by decide +kernel))) (pW_F (pe_lst' (pa_consS (e_isO G (eo_CoreError.at_ hK hm) (mgz hm z_isinstance) (by decide +kernel) (e_v G 0 (by decide +kernel)) (by decide +kernel) rfl rfl) (pa_consS (e_isOT G (et_ValueError.at_ hK) (mgz hm z_isinstance) (by decide +kernel) (e_v G 0 (by decide +kernel)) (by decide +kernel) (mgz hm z_ValueError) (by decide +kernel) rfl rfl) (pa_nil') rfl) rfl)))))
 (s_nil)))

def d_law : DS := (seqS
 (forS (.nm 2) [2, 3, 4, 5, 6, 7] (rng1 (kD (.int 4))) (seqS
  (par2S 3 false (callT m_law_odd (consA (vS 1) nilA)) 4 false (callT drawM (consA (vS 1) (consA (kD (.int 1000)) nilA))))
  (seqS
  (asgS 5 (lstT (consA (callT (err0M "Clash") nilA) (consA (callT (err0M "BadSource") nilA) (consA (callT (err1M "BadFact" "value") (consA (vS 3) nilA)) (consA (callT (err1M "NoFact" "value") (consA (vS 3) nilA)) (consA (callT (err0M "NothingDone") nilA) (consA (callT (err2M "BadText" "line" "word") (consA (vS 4) (consA (vS 3) nilA))) nilA))))))))
  (seqS
  (forS (.nm 6) [6, 7] (rng1 (kD (.int 6))) (seqS
   (iteS (bin2 (callT m_law_classes (consA (bin2 (vS 5) (vS 6) ixD) nilA)) (bin2 (lcT (.nm 7) (rng1 (kD (.int 6))) yesT (bin2 (vS 7) (vS 6) eqD) [7]) (lstT (consA (kD (.bl true)) (consA (kD (.bl true)) nilA))) addD) neD) (seqS
    (retS (kD (.bl false)))
    skipS) skipS)
   skipS))
  (seqS
  (iteS (bin2 (un1 (lstT (consA (un1 (bin2 (vS 5) (kD (.int 2)) ixD) (fldOD "BadFact" "value")) (consA (un1 (bin2 (vS 5) (kD (.int 3)) ixD) (fldOD "NoFact" "value")) (consA (un1 (bin2 (vS 5) (kD (.int 5)) ixD) (fldOD "BadText" "line")) (consA (un1 (bin2 (vS 5) (kD (.int 5)) ixD) (fldOD "BadText" "word")) nilA))))) reprSD) (un1 (lstT (consA (vS 3) (consA (vS 3) (consA (vS 4) (consA (vS 3) nilA))))) reprSD) neD) (seqS
   (retS (kD (.bl false)))
   skipS) skipS)
  skipS)))))
 (seqS
 (retS (kD (.bl true)))
 skipS))

abbrev s_law : Stmt := topS 14
theorem sc_law : FnScope ["_law_script", "_law_deck_here", "_law_turn", "_law_a", "_law_b", "_law_made", "_law_k", "_law_place"] ["_law_script"] (defScope s_law) := ⟨rfl, rfl, rfl, by decide +kernel, rfl, by decide +kernel, by decide +kernel⟩
theorem walk_law {P : Program} {w : World} {K : PySem.W.Frag} {mg : Str → Option Value} {base : Heap} {k : Nat} {X : Cx} (hf : FnC X) (hp : PassesOwn (model X.prog X.w) X.A X.env X.xe) (hg : X.A.guards = some []) (h_law_odd : FOk P w K mg base k ⟨"_law_odd", 1, m_law_odd⟩) (h_law_draw : FOk P w K mg base k ⟨"_law_draw", 2, drawM⟩) (h_law_classes : FOk P w K mg base k ⟨"_law_classes", 1, m_law_classes⟩) (z_range : mg "range" = none) (z_repr : mg "repr" = none) (e_Clash : ExK K mg "Clash") (e_BadSource : ExK K mg "BadSource") (e_NothingDone : ExK K mg "NothingDone") (x_BadFact : ExF1 P w K mg base k "BadFact" "value") (x_NoFact : ExF1 P w K mg base k "NoFact" "value") (x_BadText : ExF2 P w K mg base k "BadText" "line" "word") (eg_Clash : ExG K mg "Clash") (eg_BadSource : ExG K mg "BadSource") (eg_BadFact : ExG K mg "BadFact") (eg_NoFact : ExG K mg "NoFact") (eg_NothingDone : ExG K mg "NothingDone") (eg_BadText : ExG K mg "BadText") (ef_BadFact_value : ExFo K "BadFact" "value") (ef_NoFact_value : ExFo K "NoFact" "value") (ef_BadText_line : ExFo K "BadText" "line") (ef_BadText_word : ExFo K "BadText" "word") (c : Cn) (hK : c.K = K) (hm : c.mg = mg) (G : Gd P w base k ["_law_script", "_law_deck_here", "_law_turn", "_law_a", "_law_b", "_law_made", "_law_k", "_law_place"] (defScope s_law) X c) : PSs X (defBody s_law).tail (tS c d_law) :=
  s_cons (s_forG G hp [2, 3, 4, 5, 6, 7] (i_rng1 (G.gl (glB_of (by decide +kernel)).1) (mgzX G hm z_range) (pW_S (e_int)) rfl) (g_nm G (.inl (hf.all _)) (by decide +kernel)) (fun _ => rfl) (fun gh1 G1 => s_cons (s_par2 G1 (by decide +kernel) (by decide +kernel) (by decide +kernel) (by decide +kernel) (by decide +kernel) (e_def G1 (h_law_odd.at hK hm) (by decide +kernel) (pa_consS (e_v G1 1 (by decide +kernel)) (pa_nil') rfl) rfl rfl) (fun gh2_0 hid2_0 Gp2_1 => e_def Gp2_1 (h_law_draw.at hK hm) (by decide +kernel) (pa_consS (e_v Gp2_1 1 (by decide +kernel)) (pa_consS (e_int) (pa_nil') rfl) rfl) rfl rfl) rfl rfl (sw_par2 G1 (by decide +kernel)) rfl)
  (s_cons (s_asg G1 hf (by decide +kernel) (pS_F (pe_lst' (pa_consS (e_err0 G1 (exk_of hK hm e_Clash) (eg_Clash.at_ hK hm) (by decide +kernel)) (pa_consS (e_err0 G1 (exk_of hK hm e_BadSource) (eg_BadSource.at_ hK hm) (by decide +kernel)) (pa_consS (e_err1 G1 (x_BadFact.at_ hK hm) (eg_BadFact.at_ hK hm) (by decide +kernel) (pa_consS (e_v G1 3 (by decide +kernel)) (pa_nil') rfl) rfl rfl) (pa_consS (e_err1 G1 (x_NoFact.at_ hK hm) (eg_NoFact.at_ hK hm) (by decide +kernel) (pa_consS (e_v G1 3 (by decide +kernel)) (pa_nil') rfl) rfl rfl) (pa_consS (e_err0 G1 (exk_of hK hm e_NothingDone) (eg_NothingDone.at_ hK hm) (by decide +kernel)) (pa_consS (e_err2 G1 (x_BadText.at_ hK hm) (eg_BadText.at_ hK hm) (by decide +kernel) (pa_consS (e_v G1 4 (by decide +kernel)) (pa_consS (e_v G1 3 (by decide +kernel)) (pa_nil') rfl) rfl) rfl rfl) (pa_nil') rfl) rfl) rfl) rfl) rfl) rfl))) rfl)
  (s_cons (s_forG G1 hp [6, 7] (i_rng1 (G1.gl (glB_of (by decide +kernel)).1) (mgzX G1 hm z_range) (pW_S (e_int)) rfl) (g_nm G1 (.inl (hf.all _)) (by decide +kernel)) (fun _ => rfl) (fun gh3 G3 => s_cons (s_if (t_cmp (x_ne G3) (pW_S (e_def G3 (h_law_classes.at hK hm) (by decide +kernel) (pa_consS (e_ix G3 (pW_S (e_v G3 5 (by decide +kernel))) (pW_S (e_v G3 6 (by decide +kernel))) (fun _ _ => rfl)) (pa_nil') rfl) rfl rfl)) (pW_S (e_add G3 (pW_F (e_lc G3 [("_law_place", 7)] (i_rng1 (G3.gl (glB_of (by decide +kernel)).1) (mgzX G3 hm z_range) (pW_S (e_int)) rfl) (by decide +kernel) (by decide +kernel) (fun _ => rfl) (fun X4 c4 G4 _ f4 => g_nm G4 (.inr (by decide +kernel)) (by decide +kernel)) (fun X5 c5 a5 b5 G5 g5 => pts_yes) (fun X5 c5 a5 b5 G5 g5 => e_cmp (x_eq G5) (pW_S (e_v G5 7 (by decide +kernel))) (pW_S (e_v G5 6 (by decide +kernel))) rfl))) (pW_F (pe_lst' (pa_consS (e_bl) (pa_consS (e_bl) (pa_nil') rfl) rfl))))) rfl) (s_cons (s_ret (e_bl))
    (s_nil)) (s_nil))
   (s_nil)))
  (s_cons (s_if (t_cmp (x_ne G1) (pW_S (e_callB G1 (c_reprS G1 hg) (by decide +kernel) (mgz hm z_repr) (by decide +kernel) (pW_F (pe_lst' (pa_consS (e_fldO G1 (ef_BadFact_value.at_ hK) (e_ix G1 (pW_S (e_v G1 5 (by decide +kernel))) (pW_S (e_int)) (fun _ _ => rfl)) rfl) (pa_consS (e_fldO G1 (ef_NoFact_value.at_ hK) (e_ix G1 (pW_S (e_v G1 5 (by decide +kernel))) (pW_S (e_int)) (fun _ _ => rfl)) rfl) (pa_consS (e_fldO G1 (ef_BadText_line.at_ hK) (e_ix G1 (pW_S (e_v G1 5 (by decide +kernel))) (pW_S (e_int)) (fun _ _ => rfl)) rfl) (pa_consS (e_fldO G1 (ef_BadText_word.at_ hK) (e_ix G1 (pW_S (e_v G1 5 (by decide +kernel))) (pW_S (e_int)) (fun _ _ => rfl)) rfl) (pa_nil') rfl) rfl) rfl) rfl))) rfl)) (pW_S (e_callB G1 (c_reprS G1 hg) (by decide +kernel) (mgz hm z_repr) (by decide +kernel) (pW_F (pe_lst' (pa_consS (e_v G1 3 (by decide +kernel)) (pa_consS (e_v G1 3 (by decide +kernel)) (pa_consS (e_v G1 4 (by decide +kernel)) (pa_consS (e_v G1 3 (by decide +kernel)) (pa_nil') rfl) rfl) rfl) rfl))) rfl)) rfl) (s_cons (s_ret (e_bl))
   (s_nil)) (s_nil))
  (s_nil))))))
 (s_cons (s_ret (e_bl))
 (s_nil))

def LawMath : Prop := d_law ((List.replicate 8 EV.no).set 1 (.val .deck)) { nx := fun _ _ => False, rt := fun d _ => d = .bl true } (fun _ _ _ => False) ⟨most, []⟩
abbrev si_BadFact : Stmt := inClass (topS 4) 0
theorem sci_BadFact : FnScope ["self", "value"] ["self", "value"] (defScope si_BadFact) := ⟨rfl, rfl, rfl, by decide +kernel, rfl, by decide +kernel, by decide +kernel⟩
theorem oki_BadFact {P : Program} {w : World} {K : PySem.W.Frag} {mg : Str → Option Value} {base : Heap} {f C : Addr} {fd : FuncData} (F : Fun K "__init__" "BadFact.__init__" si_BadFact f fd) (T : OexC K C) (n1 : PySem.W.findIn K (.ref C) "value" = some none) : FnOk P w K mg base CX0 1 f fd ["self", "value"] (spI1 C "value") :=
  F.ok sci_BadFact (fun vs H Q E h => by obtain ⟨a, v1, rfl, _⟩ := h; rfl) fun cdv A outer s0 H vs Q E hr h => ⟨_, pss_one (ps_ost (pv 0) (pv 1)), init1_end T n1 h rfl⟩
abbrev si_NoFact : Stmt := inClass (topS 5) 0
theorem sci_NoFact : FnScope ["self", "value"] ["self", "value"] (defScope si_NoFact) := ⟨rfl, rfl, rfl, by decide +kernel, rfl, by decide +kernel, by decide +kernel⟩
theorem oki_NoFact {P : Program} {w : World} {K : PySem.W.Frag} {mg : Str → Option Value} {base : Heap} {f C : Addr} {fd : FuncData} (F : Fun K "__init__" "NoFact.__init__" si_NoFact f fd) (T : OexC K C) (n1 : PySem.W.findIn K (.ref C) "value" = some none) : FnOk P w K mg base CX0 1 f fd ["self", "value"] (spI1 C "value") :=
  F.ok sci_NoFact (fun vs H Q E h => by obtain ⟨a, v1, rfl, _⟩ := h; rfl) fun cdv A outer s0 H vs Q E hr h => ⟨_, pss_one (ps_ost (pv 0) (pv 1)), init1_end T n1 h rfl⟩
abbrev si_BadText : Stmt := inClass (topS 7) 0
theorem sci_BadText : FnScope ["self", "line", "word"] ["self", "line", "word"] (defScope si_BadText) := ⟨rfl, rfl, rfl, by decide +kernel, rfl, by decide +kernel, by decide +kernel⟩
theorem oki_BadText {P : Program} {w : World} {K : PySem.W.Frag} {mg : Str → Option Value} {base : Heap} {f C : Addr} {fd : FuncData} (F : Fun K "__init__" "BadText.__init__" si_BadText f fd) (T : OexC K C) (n1 : PySem.W.findIn K (.ref C) "line" = some none) (n2 : PySem.W.findIn K (.ref C) "word" = some none) : FnOk P w K mg base CX0 1 f fd ["self", "line", "word"] (spI2 C "line" "word") :=
  F.ok sci_BadText (fun vs H Q E h => by obtain ⟨a, v1, v2, rfl, _⟩ := h; rfl) fun cdv A outer s0 H vs Q E hr h => ⟨_, pss_cons (ps_ost (pv 0) (pv 1)) (pss_one (ps_ost (pv 0) (pv 2))), init2_end T n1 n2 h rfl⟩
set_option maxHeartbeats 0 in
theorem all_mk (math : LawMath) {l : PySem.W.OpenLaw} {w : World} {K : PySem.W.Frag} {h : Heap} {mg : Str → Option Value} {fa : Addr} (KX : K.In h) (G0 : h.Ns mainGlobals mg) (hfa : mg "law" = some (.ref fa))
    {f1 : Addr} {od1 an1 : Option Addr} {sl1 : Array (Option Value)} {oc1 kV1 dc1 pm1 cd1 ct1 : Value}
    {f2 : Addr} {od2 an2 : Option Addr} {sl2 : Array (Option Value)} {oc2 kV2 dc2 pm2 cd2 ct2 : Value}
    {f3 : Addr} {od3 an3 : Option Addr} {sl3 : Array (Option Value)} {oc3 kV3 dc3 pm3 cd3 ct3 : Value}
    {f4 : Addr} {od4 an4 : Option Addr} {sl4 : Array (Option Value)} {oc4 kV4 dc4 pm4 cd4 ct4 : Value}
    {f5 : Addr} {od5 an5 : Option Addr} {sl5 : Array (Option Value)} {oc5 kV5 dc5 pm5 cd5 ct5 : Value}
    {f6 : Addr} {od6 an6 : Option Addr} {sl6 : Array (Option Value)} {oc6 kV6 dc6 pm6 cd6 ct6 : Value}
    {E_Clash : Addr}
    {E_BadSource : Addr}
    {E_NothingDone : Addr}
    {E_BadFact : Addr}
    {xI_BadFact : Addr} {xm_BadFact xq_BadFact : Str} {xN_BadFact : Addr} {xo_BadFact : List Value} {xn_BadFact : List Str} {xu_BadFact : List Value} {xab_BadFact : Bool} {xcl_BadFact : Option Bool} {xdd_BadFact : Option Addr} {x0_BadFact x1_BadFact x2_BadFact x3_BadFact x5_BadFact : Option Value} {xoc_BadFact xkV_BadFact xdc_BadFact xpm_BadFact xcd_BadFact xct_BadFact : Value} {xod_BadFact xan_BadFact : Option Addr} {xsl_BadFact : Array (Option Value)} {xA_BadFact_CoreError : Addr}
    {E_NoFact : Addr}
    {xI_NoFact : Addr} {xm_NoFact xq_NoFact : Str} {xN_NoFact : Addr} {xo_NoFact : List Value} {xn_NoFact : List Str} {xu_NoFact : List Value} {xab_NoFact : Bool} {xcl_NoFact : Option Bool} {xdd_NoFact : Option Addr} {x0_NoFact x1_NoFact x2_NoFact x3_NoFact x5_NoFact : Option Value} {xoc_NoFact xkV_NoFact xdc_NoFact xpm_NoFact xcd_NoFact xct_NoFact : Value} {xod_NoFact xan_NoFact : Option Addr} {xsl_NoFact : Array (Option Value)} {xA_NoFact_CoreError : Addr}
    {E_BadText : Addr}
    {xI_BadText : Addr} {xm_BadText xq_BadText : Str} {xN_BadText : Addr} {xo_BadText : List Value} {xn_BadText : List Str} {xu_BadText : List Value} {xab_BadText : Bool} {xcl_BadText : Option Bool} {xdd_BadText : Option Addr} {x0_BadText x1_BadText x2_BadText x3_BadText x5_BadText : Option Value} {xoc_BadText xkV_BadText xdc_BadText xpm_BadText xcd_BadText xct_BadText : Value} {xod_BadText xan_BadText : Option Addr} {xsl_BadText : Array (Option Value)} {xA_BadText_CoreError : Addr}
    {E_CoreError : Addr}
    (a1 : PySem.W.nsIn K mainGlobals "_law_deck" = some (some (.ref f1))) (l1 : K.lookup f1 = some ⟨oc1, od1, .func (PySem.W.fnOf "_law_deck" "_law_deck" (defArgs s_law_deck) (defBody s_law_deck) (defScope s_law_deck) .none kV1 dc1 pm1 an1 cd1 ct1), sl1⟩) (c1 : PySem.W.codeIn K cd1 "_law_deck" = true) (k1 : PySem.W.keepIn K (.ref f1) = true)
    (a2 : PySem.W.nsIn K mainGlobals "_law_draw" = some (some (.ref f2))) (l2 : K.lookup f2 = some ⟨oc2, od2, .func (PySem.W.fnOf "_law_draw" "_law_draw" (defArgs sDraw) (defBody sDraw) (defScope sDraw) .none kV2 dc2 pm2 an2 cd2 ct2), sl2⟩) (c2 : PySem.W.codeIn K cd2 "_law_draw" = true) (k2 : PySem.W.keepIn K (.ref f2) = true)
    (a3 : PySem.W.nsIn K mainGlobals "_law_one" = some (some (.ref f3))) (l3 : K.lookup f3 = some ⟨oc3, od3, .func (PySem.W.fnOf "_law_one" "_law_one" (defArgs s_law_one) (defBody s_law_one) (defScope s_law_one) .none kV3 dc3 pm3 an3 cd3 ct3), sl3⟩) (c3 : PySem.W.codeIn K cd3 "_law_one" = true) (k3 : PySem.W.keepIn K (.ref f3) = true)
    (a4 : PySem.W.nsIn K mainGlobals "_law_odd" = some (some (.ref f4))) (l4 : K.lookup f4 = some ⟨oc4, od4, .func (PySem.W.fnOf "_law_odd" "_law_odd" (defArgs s_law_odd) (defBody s_law_odd) (defScope s_law_odd) .none kV4 dc4 pm4 an4 cd4 ct4), sl4⟩) (c4 : PySem.W.codeIn K cd4 "_law_odd" = true) (k4 : PySem.W.keepIn K (.ref f4) = true)
    (a5 : PySem.W.nsIn K mainGlobals "_law_classes" = some (some (.ref f5))) (l5 : K.lookup f5 = some ⟨oc5, od5, .func (PySem.W.fnOf "_law_classes" "_law_classes" (defArgs s_law_classes) (defBody s_law_classes) (defScope s_law_classes) .none kV5 dc5 pm5 an5 cd5 ct5), sl5⟩) (c5 : PySem.W.codeIn K cd5 "_law_classes" = true) (k5 : PySem.W.keepIn K (.ref f5) = true)
    (a6 : PySem.W.nsIn K mainGlobals "law" = some (some (.ref f6))) (l6 : K.lookup f6 = some ⟨oc6, od6, .func (PySem.W.fnOf "law" "law" (defArgs s_law) (defBody s_law) (defScope s_law) .none kV6 dc6 pm6 an6 cd6 ct6), sl6⟩) (c6 : PySem.W.codeIn K cd6 "law" = true) (k6 : PySem.W.keepIn K (.ref f6) = true)
    (y_len : PySem.W.nsIn K mainGlobals "len" = some none)
    (y_isinstance : PySem.W.nsIn K mainGlobals "isinstance" = some none)
    (y_ValueError : PySem.W.nsIn K mainGlobals "ValueError" = some none)
    (y_range : PySem.W.nsIn K mainGlobals "range" = some none)
    (y_repr : PySem.W.nsIn K mainGlobals "repr" = some none)
    (y_int : PySem.W.nsIn K mainGlobals "int" = some none)
    (y_abs : PySem.W.nsIn K mainGlobals "abs" = some none)
    (y_list : PySem.W.nsIn K mainGlobals "list" = some none)
    (a_Clash : PySem.W.nsIn K mainGlobals "Clash" = some (some (.ref E_Clash))) (xx_Clash : PySem.W.excIn K E_Clash veB "ValueError.__new__" = true) (xk_Clash : PySem.W.keepIn K (.ref E_Clash) = true) (xb_Clash : PySem.W.subIn K (.ref E_Clash) (.type "BaseException") = some true) (xt_Clash : PySem.W.typeIn K (.ref E_Clash) = some (.type "type")) (xi_Clash : PySem.W.isClsIn K E_Clash = true) (xs_Clash : PySem.W.subIn K (.ref E_Clash) (.ref E_Clash) = some true)
    (a_BadSource : PySem.W.nsIn K mainGlobals "BadSource" = some (some (.ref E_BadSource))) (xx_BadSource : PySem.W.excIn K E_BadSource veB "ValueError.__new__" = true) (xk_BadSource : PySem.W.keepIn K (.ref E_BadSource) = true) (xb_BadSource : PySem.W.subIn K (.ref E_BadSource) (.type "BaseException") = some true) (xt_BadSource : PySem.W.typeIn K (.ref E_BadSource) = some (.type "type")) (xi_BadSource : PySem.W.isClsIn K E_BadSource = true) (xs_BadSource : PySem.W.subIn K (.ref E_BadSource) (.ref E_BadSource) = some true)
    (a_NothingDone : PySem.W.nsIn K mainGlobals "NothingDone" = some (some (.ref E_NothingDone))) (xx_NothingDone : PySem.W.excIn K E_NothingDone veB "ValueError.__new__" = true) (xk_NothingDone : PySem.W.keepIn K (.ref E_NothingDone) = true) (xb_NothingDone : PySem.W.subIn K (.ref E_NothingDone) (.type "BaseException") = some true) (xt_NothingDone : PySem.W.typeIn K (.ref E_NothingDone) = some (.type "type")) (xi_NothingDone : PySem.W.isClsIn K E_NothingDone = true) (xs_NothingDone : PySem.W.subIn K (.ref E_NothingDone) (.ref E_NothingDone) = some true)
    (a_BadFact : PySem.W.nsIn K mainGlobals "BadFact" = some (some (.ref E_BadFact)))
    (xl_BadFact : K.lookup E_BadFact = some (excClassObj xm_BadFact xq_BadFact E_BadFact xN_BadFact xo_BadFact [.ref xA_BadFact_CoreError, .type "ValueError", .type "Exception", .type "BaseException", .type "object"] true xn_BadFact xu_BadFact xab_BadFact xcl_BadFact xdd_BadFact x0_BadFact x1_BadFact x2_BadFact x3_BadFact x5_BadFact "ValueError.__new__"))
    (xsa_BadFact : PySem.W.findIn K (.ref E_BadFact) "__setattr__" = some (some (.builtin "object.__setattr__")))
    (xb3_BadFact : PySem.W.subIn K (.ref E_BadFact) (.type "BaseException") = some true)
    (xt3_BadFact : PySem.W.typeIn K (.ref E_BadFact) = some (.type "type"))
    (xk3_BadFact : PySem.W.keepIn K (.ref E_BadFact) = true)
    (xi3_BadFact : PySem.W.findIn K (.ref E_BadFact) "__init__" = some (some (.ref xI_BadFact)))
    (xf3_BadFact : PySem.W.typeIn K (.ref xI_BadFact) = some (.type "function"))
    (xl3_BadFact : K.lookup xI_BadFact = some ⟨xoc_BadFact, xod_BadFact, .func (PySem.W.fnOf "__init__" "BadFact.__init__" (defArgs si_BadFact) (defBody si_BadFact) (defScope si_BadFact) .none xkV_BadFact xdc_BadFact xpm_BadFact xan_BadFact xcd_BadFact xct_BadFact), xsl_BadFact⟩)
    (xw3_BadFact : PySem.W.codeIn K xcd_BadFact "BadFact.__init__" = true)
    (xg3_BadFact : PySem.W.keepIn K (.ref xI_BadFact) = true)
    (xn1_BadFact : PySem.W.findIn K (.ref E_BadFact) "value" = some none)
    (a_NoFact : PySem.W.nsIn K mainGlobals "NoFact" = some (some (.ref E_NoFact)))
    (xl_NoFact : K.lookup E_NoFact = some (excClassObj xm_NoFact xq_NoFact E_NoFact xN_NoFact xo_NoFact [.ref xA_NoFact_CoreError, .type "ValueError", .type "Exception", .type "BaseException", .type "object"] true xn_NoFact xu_NoFact xab_NoFact xcl_NoFact xdd_NoFact x0_NoFact x1_NoFact x2_NoFact x3_NoFact x5_NoFact "ValueError.__new__"))
    (xsa_NoFact : PySem.W.findIn K (.ref E_NoFact) "__setattr__" = some (some (.builtin "object.__setattr__")))
    (xb3_NoFact : PySem.W.subIn K (.ref E_NoFact) (.type "BaseException") = some true)
    (xt3_NoFact : PySem.W.typeIn K (.ref E_NoFact) = some (.type "type"))
    (xk3_NoFact : PySem.W.keepIn K (.ref E_NoFact) = true)
    (xi3_NoFact : PySem.W.findIn K (.ref E_NoFact) "__init__" = some (some (.ref xI_NoFact)))
    (xf3_NoFact : PySem.W.typeIn K (.ref xI_NoFact) = some (.type "function"))
    (xl3_NoFact : K.lookup xI_NoFact = some ⟨xoc_NoFact, xod_NoFact, .func (PySem.W.fnOf "__init__" "NoFact.__init__" (defArgs si_NoFact) (defBody si_NoFact) (defScope si_NoFact) .none xkV_NoFact xdc_NoFact xpm_NoFact xan_NoFact xcd_NoFact xct_NoFact), xsl_NoFact⟩)
    (xw3_NoFact : PySem.W.codeIn K xcd_NoFact "NoFact.__init__" = true)
    (xg3_NoFact : PySem.W.keepIn K (.ref xI_NoFact) = true)
    (xn1_NoFact : PySem.W.findIn K (.ref E_NoFact) "value" = some none)
    (a_BadText : PySem.W.nsIn K mainGlobals "BadText" = some (some (.ref E_BadText)))
    (xl_BadText : K.lookup E_BadText = some (excClassObj xm_BadText xq_BadText E_BadText xN_BadText xo_BadText [.ref xA_BadText_CoreError, .type "ValueError", .type "Exception", .type "BaseException", .type "object"] true xn_BadText xu_BadText xab_BadText xcl_BadText xdd_BadText x0_BadText x1_BadText x2_BadText x3_BadText x5_BadText "ValueError.__new__"))
    (xsa_BadText : PySem.W.findIn K (.ref E_BadText) "__setattr__" = some (some (.builtin "object.__setattr__")))
    (xb3_BadText : PySem.W.subIn K (.ref E_BadText) (.type "BaseException") = some true)
    (xt3_BadText : PySem.W.typeIn K (.ref E_BadText) = some (.type "type"))
    (xk3_BadText : PySem.W.keepIn K (.ref E_BadText) = true)
    (xi3_BadText : PySem.W.findIn K (.ref E_BadText) "__init__" = some (some (.ref xI_BadText)))
    (xf3_BadText : PySem.W.typeIn K (.ref xI_BadText) = some (.type "function"))
    (xl3_BadText : K.lookup xI_BadText = some ⟨xoc_BadText, xod_BadText, .func (PySem.W.fnOf "__init__" "BadText.__init__" (defArgs si_BadText) (defBody si_BadText) (defScope si_BadText) .none xkV_BadText xdc_BadText xpm_BadText xan_BadText xcd_BadText xct_BadText), xsl_BadText⟩)
    (xw3_BadText : PySem.W.codeIn K xcd_BadText "BadText.__init__" = true)
    (xg3_BadText : PySem.W.keepIn K (.ref xI_BadText) = true)
    (xn1_BadText : PySem.W.findIn K (.ref E_BadText) "line" = some none)
    (xn2_BadText : PySem.W.findIn K (.ref E_BadText) "word" = some none)
    (a_CoreError : PySem.W.nsIn K mainGlobals "CoreError" = some (some (.ref E_CoreError)))
    (xk3_BadText_Clash : PySem.W.kitOne K (.ref E_BadText) (.ref E_Clash) = some false)
    (xc1_BadText : PySem.W.findIn K (.ref E_BadText) "__getattribute__" = some (some (.builtin "BaseException.__getattribute__")))
    (xc2_BadText : PySem.W.findIn K (.ref E_BadText) "__getattr__" = some none)
    (xc3_BadText : PySem.W.subIn K (.ref E_BadText) (.type "BaseException") = some true)
    (xc4_BadText : PySem.W.hasDictIn K E_BadText = true)
    (xc5_BadText : PySem.W.findIn K (.ref E_BadText) "__class__" = some (some (.builtin "object.__class__")))
    (xc6 : PySem.W.specialIn K (.builtin "object.__class__") "__get__" = some (some (.builtin "getset_descriptor.__get__")))
    (xc7 : PySem.W.takesIn K (.builtin "object.__class__") = some true)
    (xc8_BadText : PySem.W.mroIn K E_BadText (.type "object") = some true)
    (xk3_NothingDone_Clash : PySem.W.kitOne K (.ref E_NothingDone) (.ref E_Clash) = some false)
    (xc1_NothingDone : PySem.W.findIn K (.ref E_NothingDone) "__getattribute__" = some (some (.builtin "BaseException.__getattribute__")))
    (xc2_NothingDone : PySem.W.findIn K (.ref E_NothingDone) "__getattr__" = some none)
    (xc3_NothingDone : PySem.W.subIn K (.ref E_NothingDone) (.type "BaseException") = some true)
    (xc4_NothingDone : PySem.W.hasDictIn K E_NothingDone = true)
    (xc5_NothingDone : PySem.W.findIn K (.ref E_NothingDone) "__class__" = some (some (.builtin "object.__class__")))
    (xc8_NothingDone : PySem.W.mroIn K E_NothingDone (.type "object") = some true)
    (xk3_NoFact_Clash : PySem.W.kitOne K (.ref E_NoFact) (.ref E_Clash) = some false)
    (xc1_NoFact : PySem.W.findIn K (.ref E_NoFact) "__getattribute__" = some (some (.builtin "BaseException.__getattribute__")))
    (xc2_NoFact : PySem.W.findIn K (.ref E_NoFact) "__getattr__" = some none)
    (xc3_NoFact : PySem.W.subIn K (.ref E_NoFact) (.type "BaseException") = some true)
    (xc4_NoFact : PySem.W.hasDictIn K E_NoFact = true)
    (xc5_NoFact : PySem.W.findIn K (.ref E_NoFact) "__class__" = some (some (.builtin "object.__class__")))
    (xc8_NoFact : PySem.W.mroIn K E_NoFact (.type "object") = some true)
    (xk3_BadFact_Clash : PySem.W.kitOne K (.ref E_BadFact) (.ref E_Clash) = some false)
    (xc1_BadFact : PySem.W.findIn K (.ref E_BadFact) "__getattribute__" = some (some (.builtin "BaseException.__getattribute__")))
    (xc2_BadFact : PySem.W.findIn K (.ref E_BadFact) "__getattr__" = some none)
    (xc3_BadFact : PySem.W.subIn K (.ref E_BadFact) (.type "BaseException") = some true)
    (xc4_BadFact : PySem.W.hasDictIn K E_BadFact = true)
    (xc5_BadFact : PySem.W.findIn K (.ref E_BadFact) "__class__" = some (some (.builtin "object.__class__")))
    (xc8_BadFact : PySem.W.mroIn K E_BadFact (.type "object") = some true)
    (xk3_BadSource_Clash : PySem.W.kitOne K (.ref E_BadSource) (.ref E_Clash) = some false)
    (xc1_BadSource : PySem.W.findIn K (.ref E_BadSource) "__getattribute__" = some (some (.builtin "BaseException.__getattribute__")))
    (xc2_BadSource : PySem.W.findIn K (.ref E_BadSource) "__getattr__" = some none)
    (xc3_BadSource : PySem.W.subIn K (.ref E_BadSource) (.type "BaseException") = some true)
    (xc4_BadSource : PySem.W.hasDictIn K E_BadSource = true)
    (xc5_BadSource : PySem.W.findIn K (.ref E_BadSource) "__class__" = some (some (.builtin "object.__class__")))
    (xc8_BadSource : PySem.W.mroIn K E_BadSource (.type "object") = some true)
    (xk3_Clash_Clash : PySem.W.kitOne K (.ref E_Clash) (.ref E_Clash) = some true)
    (xc1_Clash : PySem.W.findIn K (.ref E_Clash) "__getattribute__" = some (some (.builtin "BaseException.__getattribute__")))
    (xc2_Clash : PySem.W.findIn K (.ref E_Clash) "__getattr__" = some none)
    (xc3_Clash : PySem.W.subIn K (.ref E_Clash) (.type "BaseException") = some true)
    (xc4_Clash : PySem.W.hasDictIn K E_Clash = true)
    (xc5_Clash : PySem.W.findIn K (.ref E_Clash) "__class__" = some (some (.builtin "object.__class__")))
    (xc8_Clash : PySem.W.mroIn K E_Clash (.type "object") = some true)
    (xk3_BadText_BadSource : PySem.W.kitOne K (.ref E_BadText) (.ref E_BadSource) = some false)
    (xk3_NothingDone_BadSource : PySem.W.kitOne K (.ref E_NothingDone) (.ref E_BadSource) = some false)
    (xk3_NoFact_BadSource : PySem.W.kitOne K (.ref E_NoFact) (.ref E_BadSource) = some false)
    (xk3_BadFact_BadSource : PySem.W.kitOne K (.ref E_BadFact) (.ref E_BadSource) = some false)
    (xk3_BadSource_BadSource : PySem.W.kitOne K (.ref E_BadSource) (.ref E_BadSource) = some true)
    (xk3_Clash_BadSource : PySem.W.kitOne K (.ref E_Clash) (.ref E_BadSource) = some false)
    (xk3_BadText_BadFact : PySem.W.kitOne K (.ref E_BadText) (.ref E_BadFact) = some false)
    (xk3_NothingDone_BadFact : PySem.W.kitOne K (.ref E_NothingDone) (.ref E_BadFact) = some false)
    (xk3_NoFact_BadFact : PySem.W.kitOne K (.ref E_NoFact) (.ref E_BadFact) = some false)
    (xk3_BadFact_BadFact : PySem.W.kitOne K (.ref E_BadFact) (.ref E_BadFact) = some true)
    (xk3_BadSource_BadFact : PySem.W.kitOne K (.ref E_BadSource) (.ref E_BadFact) = some false)
    (xk3_Clash_BadFact : PySem.W.kitOne K (.ref E_Clash) (.ref E_BadFact) = some false)
    (xk3_BadText_NoFact : PySem.W.kitOne K (.ref E_BadText) (.ref E_NoFact) = some false)
    (xk3_NothingDone_NoFact : PySem.W.kitOne K (.ref E_NothingDone) (.ref E_NoFact) = some false)
    (xk3_NoFact_NoFact : PySem.W.kitOne K (.ref E_NoFact) (.ref E_NoFact) = some true)
    (xk3_BadFact_NoFact : PySem.W.kitOne K (.ref E_BadFact) (.ref E_NoFact) = some false)
    (xk3_BadSource_NoFact : PySem.W.kitOne K (.ref E_BadSource) (.ref E_NoFact) = some false)
    (xk3_Clash_NoFact : PySem.W.kitOne K (.ref E_Clash) (.ref E_NoFact) = some false)
    (xk3_BadText_NothingDone : PySem.W.kitOne K (.ref E_BadText) (.ref E_NothingDone) = some false)
    (xk3_NothingDone_NothingDone : PySem.W.kitOne K (.ref E_NothingDone) (.ref E_NothingDone) = some true)
    (xk3_NoFact_NothingDone : PySem.W.kitOne K (.ref E_NoFact) (.ref E_NothingDone) = some false)
    (xk3_BadFact_NothingDone : PySem.W.kitOne K (.ref E_BadFact) (.ref E_NothingDone) = some false)
    (xk3_BadSource_NothingDone : PySem.W.kitOne K (.ref E_BadSource) (.ref E_NothingDone) = some false)
    (xk3_Clash_NothingDone : PySem.W.kitOne K (.ref E_Clash) (.ref E_NothingDone) = some false)
    (xk3_BadText_BadText : PySem.W.kitOne K (.ref E_BadText) (.ref E_BadText) = some true)
    (xk3_NothingDone_BadText : PySem.W.kitOne K (.ref E_NothingDone) (.ref E_BadText) = some false)
    (xk3_NoFact_BadText : PySem.W.kitOne K (.ref E_NoFact) (.ref E_BadText) = some false)
    (xk3_BadFact_BadText : PySem.W.kitOne K (.ref E_BadFact) (.ref E_BadText) = some false)
    (xk3_BadSource_BadText : PySem.W.kitOne K (.ref E_BadSource) (.ref E_BadText) = some false)
    (xk3_Clash_BadText : PySem.W.kitOne K (.ref E_Clash) (.ref E_BadText) = some false)
    (xk3_BadText_CoreError : PySem.W.kitOne K (.ref E_BadText) (.ref E_CoreError) = some true)
    (xk3_NothingDone_CoreError : PySem.W.kitOne K (.ref E_NothingDone) (.ref E_CoreError) = some true)
    (xk3_NoFact_CoreError : PySem.W.kitOne K (.ref E_NoFact) (.ref E_CoreError) = some true)
    (xk3_BadFact_CoreError : PySem.W.kitOne K (.ref E_BadFact) (.ref E_CoreError) = some true)
    (xk3_BadSource_CoreError : PySem.W.kitOne K (.ref E_BadSource) (.ref E_CoreError) = some true)
    (xk3_Clash_CoreError : PySem.W.kitOne K (.ref E_Clash) (.ref E_CoreError) = some true)
    (xk3_BadText_ValueError : PySem.W.kitOne K (.ref E_BadText) (.type "ValueError") = some true)
    (xk3_NothingDone_ValueError : PySem.W.kitOne K (.ref E_NothingDone) (.type "ValueError") = some true)
    (xk3_NoFact_ValueError : PySem.W.kitOne K (.ref E_NoFact) (.type "ValueError") = some true)
    (xk3_BadFact_ValueError : PySem.W.kitOne K (.ref E_BadFact) (.type "ValueError") = some true)
    (xk3_BadSource_ValueError : PySem.W.kitOne K (.ref E_BadSource) (.type "ValueError") = some true)
    (xk3_Clash_ValueError : PySem.W.kitOne K (.ref E_Clash) (.type "ValueError") = some true)
    (xn4_BadFact_value : PySem.W.findIn K (.ref E_BadFact) "value" = some none)
    (xn4_NoFact_value : PySem.W.findIn K (.ref E_NoFact) "value" = some none)
    (xn4_BadText_line : PySem.W.findIn K (.ref E_BadText) "line" = some none)
    (xn4_BadText_word : PySem.W.findIn K (.ref E_BadText) "word" = some none) :
    ∃ (y : Str) (fd : FuncData), Fun K y "law" s_law fa fd ∧ (∀ (s : Shared) (u : Value), BindsTo s fd ⟨[u], []⟩ [("_law_script", u)]) ∧
      ∀ base : Heap, K.In base → base.Ns mainGlobals mg → ∀ (X : Cx) (a : Addr) (ns : List Int) (H : Hp), Top l.prog w base 3 ["_law_script", "_law_deck_here", "_law_turn", "_law_a", "_law_b", "_law_made", "_law_k", "_law_place"] (defScope s_law) K mg X → ns.length ≤ 63 → SqL K H a (ns.map V.int) →
        ∃ t, PSs X (defBody s_law) t ∧ t { nx := fun _ _ => False, rt := fun v _ => v = .bl true } (L2.start ["_law_script", "_law_deck_here", "_law_turn", "_law_a", "_law_b", "_law_made", "_law_k", "_law_place"] [.ref a]) H := by
  have e := hfa.symm.trans (PySem.W.mg_of KX G0 a6)
  cases e
  have F1 := fun_mk (st := s_law_deck) l1 c1 k1
  have B1 := F1.binds (ps := ["_law_script"]) fun _ _ _ _ _ _ us hl => match us, hl with | [_], _ => rfl
  have F2 := fun_mk (st := sDraw) l2 c2 k2
  have B2 := F2.binds (ps := ["_law_deck_here", "_law_many"]) fun _ _ _ _ _ _ us hl => match us, hl with | [_, _], _ => rfl
  have F3 := fun_mk (st := s_law_one) l3 c3 k3
  have B3 := F3.binds (ps := ["_law_deck_here", "_law_items"]) fun _ _ _ _ _ _ us hl => match us, hl with | [_, _], _ => rfl
  have F4 := fun_mk (st := s_law_odd) l4 c4 k4
  have B4 := F4.binds (ps := ["_law_deck_here"]) fun _ _ _ _ _ _ us hl => match us, hl with | [_], _ => rfl
  have F5 := fun_mk (st := s_law_classes) l5 c5 k5
  have B5 := F5.binds (ps := ["_law_e"]) fun _ _ _ _ _ _ us hl => match us, hl with | [_], _ => rfl
  have F6 := fun_mk (st := s_law) l6 c6 k6
  have z_len := PySem.W.mg_none_of KX G0 y_len
  have z_isinstance := PySem.W.mg_none_of KX G0 y_isinstance
  have z_ValueError := PySem.W.mg_none_of KX G0 y_ValueError
  have z_range := PySem.W.mg_none_of KX G0 y_range
  have z_repr := PySem.W.mg_none_of KX G0 y_repr
  have z_int := PySem.W.mg_none_of KX G0 y_int
  have z_abs := PySem.W.mg_none_of KX G0 y_abs
  have z_list := PySem.W.mg_none_of KX G0 y_list
  have e_Clash : ExK K mg "Clash" := ⟨E_Clash, PySem.W.mg_of KX G0 a_Clash, xx_Clash, xk_Clash, xb_Clash, xt_Clash, exm_self xb_Clash xi_Clash xt_Clash xs_Clash⟩
  have e_BadSource : ExK K mg "BadSource" := ⟨E_BadSource, PySem.W.mg_of KX G0 a_BadSource, xx_BadSource, xk_BadSource, xb_BadSource, xt_BadSource, exm_self xb_BadSource xi_BadSource xt_BadSource xs_BadSource⟩
  have e_NothingDone : ExK K mg "NothingDone" := ⟨E_NothingDone, PySem.W.mg_of KX G0 a_NothingDone, xx_NothingDone, xk_NothingDone, xb_NothingDone, xt_NothingDone, exm_self xb_NothingDone xi_NothingDone xt_NothingDone xs_NothingDone⟩
  have FI_BadFact := fun_mk (st := si_BadFact) xl3_BadFact xw3_BadFact xg3_BadFact
  have BI_BadFact := FI_BadFact.binds (ps := ["self", "value"]) fun _ _ _ _ _ _ us hl => match us, hl with | [_, _], _ => rfl
  have TI_BadFact : OexC K E_BadFact := ⟨⟨_, _, _, _, _, _, _, _, _, _, _, _, _, _, _, xl_BadFact, by rfl⟩, xsa_BadFact, xb3_BadFact, xt3_BadFact, xk3_BadFact⟩
  have FI_NoFact := fun_mk (st := si_NoFact) xl3_NoFact xw3_NoFact xg3_NoFact
  have BI_NoFact := FI_NoFact.binds (ps := ["self", "value"]) fun _ _ _ _ _ _ us hl => match us, hl with | [_, _], _ => rfl
  have TI_NoFact : OexC K E_NoFact := ⟨⟨_, _, _, _, _, _, _, _, _, _, _, _, _, _, _, xl_NoFact, by rfl⟩, xsa_NoFact, xb3_NoFact, xt3_NoFact, xk3_NoFact⟩
  have FI_BadText := fun_mk (st := si_BadText) xl3_BadText xw3_BadText xg3_BadText
  have BI_BadText := FI_BadText.binds (ps := ["self", "line", "word"]) fun _ _ _ _ _ _ us hl => match us, hl with | [_, _, _], _ => rfl
  have TI_BadText : OexC K E_BadText := ⟨⟨_, _, _, _, _, _, _, _, _, _, _, _, _, _, _, xl_BadText, by rfl⟩, xsa_BadText, xb3_BadText, xt3_BadText, xk3_BadText⟩
  have eo_Clash : ExBo K mg "Clash" (tbl ["Clash"] ["Clash", "BadSource", "BadFact", "NoFact", "NothingDone", "BadText"]) := ⟨E_Clash, PySem.W.mg_of KX G0 a_Clash, (by rw [show (tbl ["Clash"] ["Clash", "BadSource", "BadFact", "NoFact", "NothingDone", "BadText"]) = [(("Clash" : Str), true), (("BadSource" : Str), false), (("BadFact" : Str), false), (("NoFact" : Str), false), (("NothingDone" : Str), false), (("BadText" : Str), false)] from by decide +kernel]; exact (ExB.cons a_Clash ⟨xc1_Clash, xc2_Clash, xc3_Clash, xc4_Clash, xc5_Clash, xc6, xc7, xc8_Clash⟩ xk3_Clash_Clash (ExB.cons a_BadSource ⟨xc1_BadSource, xc2_BadSource, xc3_BadSource, xc4_BadSource, xc5_BadSource, xc6, xc7, xc8_BadSource⟩ xk3_BadSource_Clash (ExB.cons a_BadFact ⟨xc1_BadFact, xc2_BadFact, xc3_BadFact, xc4_BadFact, xc5_BadFact, xc6, xc7, xc8_BadFact⟩ xk3_BadFact_Clash (ExB.cons a_NoFact ⟨xc1_NoFact, xc2_NoFact, xc3_NoFact, xc4_NoFact, xc5_NoFact, xc6, xc7, xc8_NoFact⟩ xk3_NoFact_Clash (ExB.cons a_NothingDone ⟨xc1_NothingDone, xc2_NothingDone, xc3_NothingDone, xc4_NothingDone, xc5_NothingDone, xc6, xc7, xc8_NothingDone⟩ xk3_NothingDone_Clash (ExB.cons a_BadText ⟨xc1_BadText, xc2_BadText, xc3_BadText, xc4_BadText, xc5_BadText, xc6, xc7, xc8_BadText⟩ xk3_BadText_Clash ExB.nil)))))))⟩
  have eo_BadSource : ExBo K mg "BadSource" (tbl ["BadSource"] ["Clash", "BadSource", "BadFact", "NoFact", "NothingDone", "BadText"]) := ⟨E_BadSource, PySem.W.mg_of KX G0 a_BadSource, (by rw [show (tbl ["BadSource"] ["Clash", "BadSource", "BadFact", "NoFact", "NothingDone", "BadText"]) = [(("Clash" : Str), false), (("BadSource" : Str), true), (("BadFact" : Str), false), (("NoFact" : Str), false), (("NothingDone" : Str), false), (("BadText" : Str), false)] from by decide +kernel]; exact (ExB.cons a_Clash ⟨xc1_Clash, xc2_Clash, xc3_Clash, xc4_Clash, xc5_Clash, xc6, xc7, xc8_Clash⟩ xk3_Clash_BadSource (ExB.cons a_BadSource ⟨xc1_BadSource, xc2_BadSource, xc3_BadSource, xc4_BadSource, xc5_BadSource, xc6, xc7, xc8_BadSource⟩ xk3_BadSource_BadSource (ExB.cons a_BadFact ⟨xc1_BadFact, xc2_BadFact, xc3_BadFact, xc4_BadFact, xc5_BadFact, xc6, xc7, xc8_BadFact⟩ xk3_BadFact_BadSource (ExB.cons a_NoFact ⟨xc1_NoFact, xc2_NoFact, xc3_NoFact, xc4_NoFact, xc5_NoFact, xc6, xc7, xc8_NoFact⟩ xk3_NoFact_BadSource (ExB.cons a_NothingDone ⟨xc1_NothingDone, xc2_NothingDone, xc3_NothingDone, xc4_NothingDone, xc5_NothingDone, xc6, xc7, xc8_NothingDone⟩ xk3_NothingDone_BadSource (ExB.cons a_BadText ⟨xc1_BadText, xc2_BadText, xc3_BadText, xc4_BadText, xc5_BadText, xc6, xc7, xc8_BadText⟩ xk3_BadText_BadSource ExB.nil)))))))⟩
  have eo_BadFact : ExBo K mg "BadFact" (tbl ["BadFact"] ["Clash", "BadSource", "BadFact", "NoFact", "NothingDone", "BadText"]) := ⟨E_BadFact, PySem.W.mg_of KX G0 a_BadFact, (by rw [show (tbl ["BadFact"] ["Clash", "BadSource", "BadFact", "NoFact", "NothingDone", "BadText"]) = [(("Clash" : Str), false), (("BadSource" : Str), false), (("BadFact" : Str), true), (("NoFact" : Str), false), (("NothingDone" : Str), false), (("BadText" : Str), false)] from by decide +kernel]; exact (ExB.cons a_Clash ⟨xc1_Clash, xc2_Clash, xc3_Clash, xc4_Clash, xc5_Clash, xc6, xc7, xc8_Clash⟩ xk3_Clash_BadFact (ExB.cons a_BadSource ⟨xc1_BadSource, xc2_BadSource, xc3_BadSource, xc4_BadSource, xc5_BadSource, xc6, xc7, xc8_BadSource⟩ xk3_BadSource_BadFact (ExB.cons a_BadFact ⟨xc1_BadFact, xc2_BadFact, xc3_BadFact, xc4_BadFact, xc5_BadFact, xc6, xc7, xc8_BadFact⟩ xk3_BadFact_BadFact (ExB.cons a_NoFact ⟨xc1_NoFact, xc2_NoFact, xc3_NoFact, xc4_NoFact, xc5_NoFact, xc6, xc7, xc8_NoFact⟩ xk3_NoFact_BadFact (ExB.cons a_NothingDone ⟨xc1_NothingDone, xc2_NothingDone, xc3_NothingDone, xc4_NothingDone, xc5_NothingDone, xc6, xc7, xc8_NothingDone⟩ xk3_NothingDone_BadFact (ExB.cons a_BadText ⟨xc1_BadText, xc2_BadText, xc3_BadText, xc4_BadText, xc5_BadText, xc6, xc7, xc8_BadText⟩ xk3_BadText_BadFact ExB.nil)))))))⟩
  have eo_NoFact : ExBo K mg "NoFact" (tbl ["NoFact"] ["Clash", "BadSource", "BadFact", "NoFact", "NothingDone", "BadText"]) := ⟨E_NoFact, PySem.W.mg_of KX G0 a_NoFact, (by rw [show (tbl ["NoFact"] ["Clash", "BadSource", "BadFact", "NoFact", "NothingDone", "BadText"]) = [(("Clash" : Str), false), (("BadSource" : Str), false), (("BadFact" : Str), false), (("NoFact" : Str), true), (("NothingDone" : Str), false), (("BadText" : Str), false)] from by decide +kernel]; exact (ExB.cons a_Clash ⟨xc1_Clash, xc2_Clash, xc3_Clash, xc4_Clash, xc5_Clash, xc6, xc7, xc8_Clash⟩ xk3_Clash_NoFact (ExB.cons a_BadSource ⟨xc1_BadSource, xc2_BadSource, xc3_BadSource, xc4_BadSource, xc5_BadSource, xc6, xc7, xc8_BadSource⟩ xk3_BadSource_NoFact (ExB.cons a_BadFact ⟨xc1_BadFact, xc2_BadFact, xc3_BadFact, xc4_BadFact, xc5_BadFact, xc6, xc7, xc8_BadFact⟩ xk3_BadFact_NoFact (ExB.cons a_NoFact ⟨xc1_NoFact, xc2_NoFact, xc3_NoFact, xc4_NoFact, xc5_NoFact, xc6, xc7, xc8_NoFact⟩ xk3_NoFact_NoFact (ExB.cons a_NothingDone ⟨xc1_NothingDone, xc2_NothingDone, xc3_NothingDone, xc4_NothingDone, xc5_NothingDone, xc6, xc7, xc8_NothingDone⟩ xk3_NothingDone_NoFact (ExB.cons a_BadText ⟨xc1_BadText, xc2_BadText, xc3_BadText, xc4_BadText, xc5_BadText, xc6, xc7, xc8_BadText⟩ xk3_BadText_NoFact ExB.nil)))))))⟩
  have eo_NothingDone : ExBo K mg "NothingDone" (tbl ["NothingDone"] ["Clash", "BadSource", "BadFact", "NoFact", "NothingDone", "BadText"]) := ⟨E_NothingDone, PySem.W.mg_of KX G0 a_NothingDone, (by rw [show (tbl ["NothingDone"] ["Clash", "BadSource", "BadFact", "NoFact", "NothingDone", "BadText"]) = [(("Clash" : Str), false), (("BadSource" : Str), false), (("BadFact" : Str), false), (("NoFact" : Str), false), (("NothingDone" : Str), true), (("BadText" : Str), false)] from by decide +kernel]; exact (ExB.cons a_Clash ⟨xc1_Clash, xc2_Clash, xc3_Clash, xc4_Clash, xc5_Clash, xc6, xc7, xc8_Clash⟩ xk3_Clash_NothingDone (ExB.cons a_BadSource ⟨xc1_BadSource, xc2_BadSource, xc3_BadSource, xc4_BadSource, xc5_BadSource, xc6, xc7, xc8_BadSource⟩ xk3_BadSource_NothingDone (ExB.cons a_BadFact ⟨xc1_BadFact, xc2_BadFact, xc3_BadFact, xc4_BadFact, xc5_BadFact, xc6, xc7, xc8_BadFact⟩ xk3_BadFact_NothingDone (ExB.cons a_NoFact ⟨xc1_NoFact, xc2_NoFact, xc3_NoFact, xc4_NoFact, xc5_NoFact, xc6, xc7, xc8_NoFact⟩ xk3_NoFact_NothingDone (ExB.cons a_NothingDone ⟨xc1_NothingDone, xc2_NothingDone, xc3_NothingDone, xc4_NothingDone, xc5_NothingDone, xc6, xc7, xc8_NothingDone⟩ xk3_NothingDone_NothingDone (ExB.cons a_BadText ⟨xc1_BadText, xc2_BadText, xc3_BadText, xc4_BadText, xc5_BadText, xc6, xc7, xc8_BadText⟩ xk3_BadText_NothingDone ExB.nil)))))))⟩
  have eo_BadText : ExBo K mg "BadText" (tbl ["BadText"] ["Clash", "BadSource", "BadFact", "NoFact", "NothingDone", "BadText"]) := ⟨E_BadText, PySem.W.mg_of KX G0 a_BadText, (by rw [show (tbl ["BadText"] ["Clash", "BadSource", "BadFact", "NoFact", "NothingDone", "BadText"]) = [(("Clash" : Str), false), (("BadSource" : Str), false), (("BadFact" : Str), false), (("NoFact" : Str), false), (("NothingDone" : Str), false), (("BadText" : Str), true)] from by decide +kernel]; exact (ExB.cons a_Clash ⟨xc1_Clash, xc2_Clash, xc3_Clash, xc4_Clash, xc5_Clash, xc6, xc7, xc8_Clash⟩ xk3_Clash_BadText (ExB.cons a_BadSource ⟨xc1_BadSource, xc2_BadSource, xc3_BadSource, xc4_BadSource, xc5_BadSource, xc6, xc7, xc8_BadSource⟩ xk3_BadSource_BadText (ExB.cons a_BadFact ⟨xc1_BadFact, xc2_BadFact, xc3_BadFact, xc4_BadFact, xc5_BadFact, xc6, xc7, xc8_BadFact⟩ xk3_BadFact_BadText (ExB.cons a_NoFact ⟨xc1_NoFact, xc2_NoFact, xc3_NoFact, xc4_NoFact, xc5_NoFact, xc6, xc7, xc8_NoFact⟩ xk3_NoFact_BadText (ExB.cons a_NothingDone ⟨xc1_NothingDone, xc2_NothingDone, xc3_NothingDone, xc4_NothingDone, xc5_NothingDone, xc6, xc7, xc8_NothingDone⟩ xk3_NothingDone_BadText (ExB.cons a_BadText ⟨xc1_BadText, xc2_BadText, xc3_BadText, xc4_BadText, xc5_BadText, xc6, xc7, xc8_BadText⟩ xk3_BadText_BadText ExB.nil)))))))⟩
  have eo_CoreError : ExBo K mg "CoreError" (tbl ["Clash", "BadSource", "BadFact", "NoFact", "NothingDone", "BadText"] ["Clash", "BadSource", "BadFact", "NoFact", "NothingDone", "BadText"]) := ⟨E_CoreError, PySem.W.mg_of KX G0 a_CoreError, (by rw [show (tbl ["Clash", "BadSource", "BadFact", "NoFact", "NothingDone", "BadText"] ["Clash", "BadSource", "BadFact", "NoFact", "NothingDone", "BadText"]) = [(("Clash" : Str), true), (("BadSource" : Str), true), (("BadFact" : Str), true), (("NoFact" : Str), true), (("NothingDone" : Str), true), (("BadText" : Str), true)] from by decide +kernel]; exact (ExB.cons a_Clash ⟨xc1_Clash, xc2_Clash, xc3_Clash, xc4_Clash, xc5_Clash, xc6, xc7, xc8_Clash⟩ xk3_Clash_CoreError (ExB.cons a_BadSource ⟨xc1_BadSource, xc2_BadSource, xc3_BadSource, xc4_BadSource, xc5_BadSource, xc6, xc7, xc8_BadSource⟩ xk3_BadSource_CoreError (ExB.cons a_BadFact ⟨xc1_BadFact, xc2_BadFact, xc3_BadFact, xc4_BadFact, xc5_BadFact, xc6, xc7, xc8_BadFact⟩ xk3_BadFact_CoreError (ExB.cons a_NoFact ⟨xc1_NoFact, xc2_NoFact, xc3_NoFact, xc4_NoFact, xc5_NoFact, xc6, xc7, xc8_NoFact⟩ xk3_NoFact_CoreError (ExB.cons a_NothingDone ⟨xc1_NothingDone, xc2_NothingDone, xc3_NothingDone, xc4_NothingDone, xc5_NothingDone, xc6, xc7, xc8_NothingDone⟩ xk3_NothingDone_CoreError (ExB.cons a_BadText ⟨xc1_BadText, xc2_BadText, xc3_BadText, xc4_BadText, xc5_BadText, xc6, xc7, xc8_BadText⟩ xk3_BadText_CoreError ExB.nil)))))))⟩
  have et_ValueError : ExB K (.type "ValueError") (tbl ["Clash", "BadSource", "BadFact", "NoFact", "NothingDone", "BadText"] ["Clash", "BadSource", "BadFact", "NoFact", "NothingDone", "BadText"]) := (by rw [show (tbl ["Clash", "BadSource", "BadFact", "NoFact", "NothingDone", "BadText"] ["Clash", "BadSource", "BadFact", "NoFact", "NothingDone", "BadText"]) = [(("Clash" : Str), true), (("BadSource" : Str), true), (("BadFact" : Str), true), (("NoFact" : Str), true), (("NothingDone" : Str), true), (("BadText" : Str), true)] from by decide +kernel]; exact (ExB.cons a_Clash ⟨xc1_Clash, xc2_Clash, xc3_Clash, xc4_Clash, xc5_Clash, xc6, xc7, xc8_Clash⟩ xk3_Clash_ValueError (ExB.cons a_BadSource ⟨xc1_BadSource, xc2_BadSource, xc3_BadSource, xc4_BadSource, xc5_BadSource, xc6, xc7, xc8_BadSource⟩ xk3_BadSource_ValueError (ExB.cons a_BadFact ⟨xc1_BadFact, xc2_BadFact, xc3_BadFact, xc4_BadFact, xc5_BadFact, xc6, xc7, xc8_BadFact⟩ xk3_BadFact_ValueError (ExB.cons a_NoFact ⟨xc1_NoFact, xc2_NoFact, xc3_NoFact, xc4_NoFact, xc5_NoFact, xc6, xc7, xc8_NoFact⟩ xk3_NoFact_ValueError (ExB.cons a_NothingDone ⟨xc1_NothingDone, xc2_NothingDone, xc3_NothingDone, xc4_NothingDone, xc5_NothingDone, xc6, xc7, xc8_NothingDone⟩ xk3_NothingDone_ValueError (ExB.cons a_BadText ⟨xc1_BadText, xc2_BadText, xc3_BadText, xc4_BadText, xc5_BadText, xc6, xc7, xc8_BadText⟩ xk3_BadText_ValueError ExB.nil)))))))
  have eg_Clash : ExG K mg "Clash" := fun C h => by have e := (PySem.W.mg_of KX G0 a_Clash).symm.trans h; cases e; exact a_Clash
  have eg_BadSource : ExG K mg "BadSource" := fun C h => by have e := (PySem.W.mg_of KX G0 a_BadSource).symm.trans h; cases e; exact a_BadSource
  have eg_BadFact : ExG K mg "BadFact" := fun C h => by have e := (PySem.W.mg_of KX G0 a_BadFact).symm.trans h; cases e; exact a_BadFact
  have eg_NoFact : ExG K mg "NoFact" := fun C h => by have e := (PySem.W.mg_of KX G0 a_NoFact).symm.trans h; cases e; exact a_NoFact
  have eg_NothingDone : ExG K mg "NothingDone" := fun C h => by have e := (PySem.W.mg_of KX G0 a_NothingDone).symm.trans h; cases e; exact a_NothingDone
  have eg_BadText : ExG K mg "BadText" := fun C h => by have e := (PySem.W.mg_of KX G0 a_BadText).symm.trans h; cases e; exact a_BadText
  have ef_BadFact_value : ExFo K "BadFact" "value" := exFo_of a_BadFact ⟨xc1_BadFact, xc2_BadFact, xc3_BadFact, xc4_BadFact, xc5_BadFact, xc6, xc7, xc8_BadFact⟩ xn4_BadFact_value
  have ef_NoFact_value : ExFo K "NoFact" "value" := exFo_of a_NoFact ⟨xc1_NoFact, xc2_NoFact, xc3_NoFact, xc4_NoFact, xc5_NoFact, xc6, xc7, xc8_NoFact⟩ xn4_NoFact_value
  have ef_BadText_line : ExFo K "BadText" "line" := exFo_of a_BadText ⟨xc1_BadText, xc2_BadText, xc3_BadText, xc4_BadText, xc5_BadText, xc6, xc7, xc8_BadText⟩ xn4_BadText_line
  have ef_BadText_word : ExFo K "BadText" "word" := exFo_of a_BadText ⟨xc1_BadText, xc2_BadText, xc3_BadText, xc4_BadText, xc5_BadText, xc6, xc7, xc8_BadText⟩ xn4_BadText_word
  refine ⟨_, _, F6, fun s v => .of_eq rfl, fun base _ _ X a ns H T hn hs => ?_⟩
  have x_BadFact : ExF1 l.prog w K mg base 2 "BadFact" "value" := ⟨_, _, _, _, 1, by decide, PySem.W.mg_of KX G0 a_BadFact, TI_BadFact, xi3_BadFact, xf3_BadFact, oki_BadFact FI_BadFact TI_BadFact xn1_BadFact, BI_BadFact⟩
  have x_NoFact : ExF1 l.prog w K mg base 2 "NoFact" "value" := ⟨_, _, _, _, 1, by decide, PySem.W.mg_of KX G0 a_NoFact, TI_NoFact, xi3_NoFact, xf3_NoFact, oki_NoFact FI_NoFact TI_NoFact xn1_NoFact, BI_NoFact⟩
  have x_BadText : ExF2 l.prog w K mg base 2 "BadText" "line" "word" := ⟨_, _, _, _, 1, by decide, PySem.W.mg_of KX G0 a_BadText, TI_BadText, xi3_BadText, xf3_BadText, oki_BadText FI_BadText TI_BadText xn1_BadText xn2_BadText, BI_BadText⟩
  have h_law_deck := ok_law_deck (P := l.prog) (w := w) (base := base) (mg := mg) (k := 2) F1 z_list
  have h_law_draw := ok_law_draw (P := l.prog) (w := w) (base := base) (k := 0) F2 (PySem.W.mg_of KX G0 a2) B2 z_int z_len z_abs
  have h_law_one := ok_law_one (P := l.prog) (w := w) (base := base) (k := 1) F3 (PySem.W.mg_of KX G0 a3) B3 (h_law_draw.mono (by decide)) z_len
  have h_law_odd := ok_law_odd (P := l.prog) (w := w) (base := base) (k := 2) F4 (PySem.W.mg_of KX G0 a4) B4 (h_law_one.mono (by decide))
  have h_law_classes := ok_law_classes (P := l.prog) (w := w) (base := base) (k := 0) F5 (PySem.W.mg_of KX G0 a5) B5 z_isinstance z_ValueError eo_Clash eo_BadSource eo_BadFact eo_NoFact eo_NothingDone eo_BadText eo_CoreError et_ValueError
  exact law_body T h_law_deck (PySem.W.mg_of KX G0 a1) k1 B1 (by decide +kernel) (by decide +kernel) (by decide) (by decide) (by decide +kernel) (fun c hK hm G => walk_law T.fn T.pass T.guards (h_law_odd.mono (by decide)) (h_law_draw.mono (by decide)) (h_law_classes.mono (by decide)) z_range z_repr e_Clash e_BadSource e_NothingDone (x_BadFact.mono (by decide)) (x_NoFact.mono (by decide)) (x_BadText.mono (by decide)) eg_Clash eg_BadSource eg_BadFact eg_NoFact eg_NothingDone eg_BadText ef_BadFact_value ef_NoFact_value ef_BadText_line ef_BadText_word c hK hm G) hs math
end DL

namespace DL
open PySem PySem.Spec L2
theorem T_oneL {α : Type} {e : α → D} (l : List α) : ME (m_law_one [.deck, eL e l]) (t_one l) e := t_def (env := [.val .deck, .val (eL e l)]) rfl (show Blk d_law_one _ (t_one l) _ by
  delta d_law_one t_one
  exact b_retFE (bin2_PE (vS_p rfl) (callT_e (argP (vS_p rfl) (argP (un1_P (vS_p rfl) (t_lenL (e := e))) (arg0 t_draw)))) fun _ => t_ixL (e := e)))
noncomputable def t_law_odd : Pg D :=
 (Pg.ret [D.non, (D.bl true), (D.bl false), (D.int (0 : Int)), (D.int (1 : Int)), (D.int (7 : Int)), (D.str (Str.ofString "")), (D.str (Str.ofString "a")), (D.str (Str.ofString "A")), (D.str (Str.ofString "?")), (D.str (Str.ofString "?0")), (D.str (Str.ofString "?1")), (D.str (Str.ofString "?01")), (D.str (Str.ofString "?123456")), (D.str (Str.ofString "a1")), (D.str (Str.ofString "aB")), (D.str (Str.ofString "abcdefghi")), (D.str (Str.ofString "a b"))]).bind fun some_ =>
 ((((Pg.newL eV ([] : (List D))).bind fun z => .ret (D.obj z)).bind fun z => (((Pg.newL D.str [(Str.ofString "a"), (Str.ofString "b")]).bind fun z => .ret (D.obj z)).bind fun z1 => (.ret [(D.tup []), z, (D.tup [(D.str (Str.ofString "a"))]), (D.tup [(D.str (Str.ofString "a")), (D.str (Str.ofString "b"))]), z1, (D.tup [(D.str (Str.ofString "a")), (D.str (Str.ofString "?1"))]), (D.tup [(D.str (Str.ofString "a")), (D.str (Str.ofString "A"))]), (D.tup [(D.tup [(D.str (Str.ofString "a")), (D.str (Str.ofString "b"))])]), (D.tup [(D.str (Str.ofString "?1")), (D.str (Str.ofString "a"))])]))).bind fun z2 => (Pg.req (some_.length + z2.length ≤ sizeLine) (.ret (some_ ++ z2)))).bind fun some_1 =>
 ((Pg.req (some_1.length + [(D.tup [(D.str (Str.ofString "a")), (D.tup [(D.str (Str.ofString "b"))])]), (D.tup [(D.str (Str.ofString "a")), (D.str (Str.ofString "b")), (D.str (Str.ofString "c")), (D.str (Str.ofString "d")), (D.str (Str.ofString "e")), (D.str (Str.ofString "f"))]), (D.tup [(D.str (Str.ofString "a")), (D.int (1 : Int))]), (D.str (Str.ofString "zz")), (D.str (Str.ofString "?x")), (D.tup [(D.str (Str.ofString "")), (D.str (Str.ofString "a"))])].length ≤ sizeLine) (.ret (some_1 ++ [(D.tup [(D.str (Str.ofString "a")), (D.tup [(D.str (Str.ofString "b"))])]), (D.tup [(D.str (Str.ofString "a")), (D.str (Str.ofString "b")), (D.str (Str.ofString "c")), (D.str (Str.ofString "d")), (D.str (Str.ofString "e")), (D.str (Str.ofString "f"))]), (D.tup [(D.str (Str.ofString "a")), (D.int (1 : Int))]), (D.str (Str.ofString "zz")), (D.str (Str.ofString "?x")), (D.tup [(D.str (Str.ofString "")), (D.str (Str.ofString "a"))])]))).bind fun z3 => (t_one z3))
theorem T_law_odd : ME (m_law_odd [.deck]) (t_law_odd) eV := t_def (env := [.val (eK ()), .no]) rfl (show Blk d_law_odd _ (t_law_odd) _ by
 delta d_law_odd t_law_odd
 exact (b_asgE (ea := (eL eV)) (env' := fun some_ => [.val (eK ()), .val ((eL eV) some_)]) (MP.me (e := (eL eV)) (a := [D.non, (D.bl true), (D.bl false), (D.int (0 : Int)), (D.int (1 : Int)), (D.int (7 : Int)), (D.str (Str.ofString "")), (D.str (Str.ofString "a")), (D.str (Str.ofString "A")), (D.str (Str.ofString "?")), (D.str (Str.ofString "?0")), (D.str (Str.ofString "?1")), (D.str (Str.ofString "?01")), (D.str (Str.ofString "?123456")), (D.str (Str.ofString "a1")), (D.str (Str.ofString "aB")), (D.str (Str.ofString "abcdefghi")), (D.str (Str.ofString "a b"))]) (lstT_p (argPP kD_p (argPP kD_p (argPP kD_p (argPP kD_p (argPP kD_p (argPP kD_p (argPP kD_p (argPP kD_p (argPP kD_p (argPP kD_p (argPP kD_p (argPP kD_p (argPP kD_p (argPP kD_p (argPP kD_p (argPP kD_p (argPP kD_p (argPP kD_p (arg0P (disp_e (v := ((eL eV) [D.non, (D.bl true), (D.bl false), (D.int (0 : Int)), (D.int (1 : Int)), (D.int (7 : Int)), (D.str (Str.ofString "")), (D.str (Str.ofString "a")), (D.str (Str.ofString "A")), (D.str (Str.ofString "?")), (D.str (Str.ofString "?0")), (D.str (Str.ofString "?1")), (D.str (Str.ofString "?01")), (D.str (Str.ofString "?123456")), (D.str (Str.ofString "a1")), (D.str (Str.ofString "aB")), (D.str (Str.ofString "abcdefghi")), (D.str (Str.ofString "a b"))])) (by show 18 ≤ 1000; decide) rfl)))))))))))))))))))))) (fun _ => rfl) (fun some_ =>
 b_asgE (ea := (eL eV)) (env' := fun some_1 => [.val (eK ()), .val ((eL eV) some_1)]) (bin2_PE (vS_p rfl) (lstT_e (argP (tupT_p (arg0P (disp_v (v := .tup []) (by show 0 ≤ 1000; decide) rfl))) (argE (me_val (t_stoP (e := eV) (lstT_p (arg0P (disp_e (v := ((eL eV) ([] : (List D)))) (by show 0 ≤ 1000; decide) rfl))))) fun z => (argP (tupT_p (argPP kD_p (arg0P (disp_v (v := .tup [(D.str (Str.ofString "a"))]) (by show 1 ≤ 1000; decide) rfl)))) (argP (tupT_p (argPP kD_p (argPP kD_p (arg0P (disp_v (v := .tup [(D.str (Str.ofString "a")), (D.str (Str.ofString "b"))]) (by show 2 ≤ 1000; decide) rfl))))) (argE (me_val (t_stoP (e := D.str) (lstT_p (argPP kD_p (argPP kD_p (arg0P (disp_e (v := ((eL D.str) [(Str.ofString "a"), (Str.ofString "b")])) (by show 2 ≤ 1000; decide) rfl))))))) fun z1 => (argP (tupT_p (argPP kD_p (argPP kD_p (arg0P (disp_v (v := .tup [(D.str (Str.ofString "a")), (D.str (Str.ofString "?1"))]) (by show 2 ≤ 1000; decide) rfl))))) (argP (tupT_p (argPP kD_p (argPP kD_p (arg0P (disp_v (v := .tup [(D.str (Str.ofString "a")), (D.str (Str.ofString "A"))]) (by show 2 ≤ 1000; decide) rfl))))) (argP (tupT_p (argPP (tupT_p (argPP kD_p (argPP kD_p (arg0P (disp_v (v := .tup [(D.str (Str.ofString "a")), (D.str (Str.ofString "b"))]) (by show 2 ≤ 1000; decide) rfl))))) (arg0P (disp_v (v := .tup [(D.tup [(D.str (Str.ofString "a")), (D.str (Str.ofString "b"))])]) (by show 1 ≤ 1000; decide) rfl)))) (argP (tupT_p (argPP kD_p (argPP kD_p (arg0P (disp_v (v := .tup [(D.str (Str.ofString "?1")), (D.str (Str.ofString "a"))]) (by show 2 ≤ 1000; decide) rfl))))) (arg0 (MP.me (e := (eL eV)) (a := [(D.tup []), z, (D.tup [(D.str (Str.ofString "a"))]), (D.tup [(D.str (Str.ofString "a")), (D.str (Str.ofString "b"))]), z1, (D.tup [(D.str (Str.ofString "a")), (D.str (Str.ofString "?1"))]), (D.tup [(D.str (Str.ofString "a")), (D.str (Str.ofString "A"))]), (D.tup [(D.tup [(D.str (Str.ofString "a")), (D.str (Str.ofString "b"))])]), (D.tup [(D.str (Str.ofString "?1")), (D.str (Str.ofString "a"))])]) (disp_e (v := ((eL eV) [(D.tup []), z, (D.tup [(D.str (Str.ofString "a"))]), (D.tup [(D.str (Str.ofString "a")), (D.str (Str.ofString "b"))]), z1, (D.tup [(D.str (Str.ofString "a")), (D.str (Str.ofString "?1"))]), (D.tup [(D.str (Str.ofString "a")), (D.str (Str.ofString "A"))]), (D.tup [(D.tup [(D.str (Str.ofString "a")), (D.str (Str.ofString "b"))])]), (D.tup [(D.str (Str.ofString "?1")), (D.str (Str.ofString "a"))])])) (by show 9 ≤ 1000; decide) rfl))))))))))))) fun z2 => (t_addL (e := eV))) (fun _ => rfl) (fun some_1 =>
 b_retFE (er := eV) (callT_e (argP (vS_p rfl) (argE (bin2_PPE (vS_p rfl) (lstT_p (argPP (tupT_p (argPP kD_p (argPP (tupT_p (argPP kD_p (arg0P (disp_v (v := .tup [(D.str (Str.ofString "b"))]) (by show 1 ≤ 1000; decide) rfl)))) (arg0P (disp_v (v := .tup [(D.str (Str.ofString "a")), (D.tup [(D.str (Str.ofString "b"))])]) (by show 2 ≤ 1000; decide) rfl))))) (argPP (tupT_p (argPP kD_p (argPP kD_p (argPP kD_p (argPP kD_p (argPP kD_p (argPP kD_p (arg0P (disp_v (v := .tup [(D.str (Str.ofString "a")), (D.str (Str.ofString "b")), (D.str (Str.ofString "c")), (D.str (Str.ofString "d")), (D.str (Str.ofString "e")), (D.str (Str.ofString "f"))]) (by show 6 ≤ 1000; decide) rfl))))))))) (argPP (tupT_p (argPP kD_p (argPP kD_p (arg0P (disp_v (v := .tup [(D.str (Str.ofString "a")), (D.int (1 : Int))]) (by show 2 ≤ 1000; decide) rfl))))) (argPP kD_p (argPP kD_p (argPP (tupT_p (argPP kD_p (argPP kD_p (arg0P (disp_v (v := .tup [(D.str (Str.ofString "")), (D.str (Str.ofString "a"))]) (by show 2 ≤ 1000; decide) rfl))))) (arg0P (disp_e (v := ((eL eV) [(D.tup [(D.str (Str.ofString "a")), (D.tup [(D.str (Str.ofString "b"))])]), (D.tup [(D.str (Str.ofString "a")), (D.str (Str.ofString "b")), (D.str (Str.ofString "c")), (D.str (Str.ofString "d")), (D.str (Str.ofString "e")), (D.str (Str.ofString "f"))]), (D.tup [(D.str (Str.ofString "a")), (D.int (1 : Int))]), (D.str (Str.ofString "zz")), (D.str (Str.ofString "?x")), (D.tup [(D.str (Str.ofString "")), (D.str (Str.ofString "a"))])])) (by show 6 ≤ 1000; decide) rfl))))))))) (t_addL (e := eV))) fun z3 => (arg0 (T_oneL (e := eV) _)))))))))

noncomputable def t_law_classes (e : Addr) : Pg (List Bool) :=
 ((Pg.isO (tbl [Str.ofString "Clash"] [Str.ofString "Clash", Str.ofString "BadSource", Str.ofString "BadFact", Str.ofString "NoFact", Str.ofString "NothingDone", Str.ofString "BadText"]) e).bind fun z => ((Pg.isO (tbl [Str.ofString "BadSource"] [Str.ofString "Clash", Str.ofString "BadSource", Str.ofString "BadFact", Str.ofString "NoFact", Str.ofString "NothingDone", Str.ofString "BadText"]) e).bind fun z1 => ((Pg.isO (tbl [Str.ofString "BadFact"] [Str.ofString "Clash", Str.ofString "BadSource", Str.ofString "BadFact", Str.ofString "NoFact", Str.ofString "NothingDone", Str.ofString "BadText"]) e).bind fun z2 => ((Pg.isO (tbl [Str.ofString "NoFact"] [Str.ofString "Clash", Str.ofString "BadSource", Str.ofString "BadFact", Str.ofString "NoFact", Str.ofString "NothingDone", Str.ofString "BadText"]) e).bind fun z3 => (.ret [z, z1, z2, z3]))))).bind fun some_ =>
 (((Pg.isO (tbl [Str.ofString "NothingDone"] [Str.ofString "Clash", Str.ofString "BadSource", Str.ofString "BadFact", Str.ofString "NoFact", Str.ofString "NothingDone", Str.ofString "BadText"]) e).bind fun z4 => ((Pg.isO (tbl [Str.ofString "BadText"] [Str.ofString "Clash", Str.ofString "BadSource", Str.ofString "BadFact", Str.ofString "NoFact", Str.ofString "NothingDone", Str.ofString "BadText"]) e).bind fun z5 => (.ret [z4, z5]))).bind fun z6 => (Pg.req (some_.length + z6.length ≤ sizeLine) (.ret (some_ ++ z6)))).bind fun some_1 =>
 (((Pg.isO (tbl [Str.ofString "Clash", Str.ofString "BadSource", Str.ofString "BadFact", Str.ofString "NoFact", Str.ofString "NothingDone", Str.ofString "BadText"] [Str.ofString "Clash", Str.ofString "BadSource", Str.ofString "BadFact", Str.ofString "NoFact", Str.ofString "NothingDone", Str.ofString "BadText"]) e).bind fun z7 => ((Pg.isO (tbl [Str.ofString "Clash", Str.ofString "BadSource", Str.ofString "BadFact", Str.ofString "NoFact", Str.ofString "NothingDone", Str.ofString "BadText"] [Str.ofString "Clash", Str.ofString "BadSource", Str.ofString "BadFact", Str.ofString "NoFact", Str.ofString "NothingDone", Str.ofString "BadText"]) e).bind fun z8 => (.ret [z7, z8]))).bind fun z9 => (Pg.req (some_1.length + z9.length ≤ sizeLine) (.ret (some_1 ++ z9))))
theorem T_law_classes (e : Addr) : ME (m_law_classes [(D.obj e)]) (t_law_classes e) (eL D.bl) := t_def (env := [.val (D.obj e), .no]) rfl (show Blk d_law_classes _ (t_law_classes e) _ by
 delta d_law_classes t_law_classes
 exact (b_asgE (ea := (eL D.bl)) (env' := fun some_ => [.val (D.obj e), .val ((eL D.bl) some_)]) (lstT_e (argE (un1_PE (vS_p rfl) t_isO) fun z => (argE (un1_PE (vS_p rfl) t_isO) fun z1 => (argE (un1_PE (vS_p rfl) t_isO) fun z2 => (argE (un1_PE (vS_p rfl) t_isO) fun z3 => (arg0 (MP.me (e := (eL D.bl)) (a := [z, z1, z2, z3]) (disp_e (v := ((eL D.bl) [z, z1, z2, z3])) (by show 4 ≤ 1000; decide) rfl)))))))) (fun _ => rfl) (fun some_ =>
 b_asgE (ea := (eL D.bl)) (env' := fun some_1 => [.val (D.obj e), .val ((eL D.bl) some_1)]) (bin2_PE (vS_p rfl) (lstT_e (argE (un1_PE (vS_p rfl) t_isO) fun z4 => (argE (un1_PE (vS_p rfl) t_isO) fun z5 => (arg0 (MP.me (e := (eL D.bl)) (a := [z4, z5]) (disp_e (v := ((eL D.bl) [z4, z5])) (by show 2 ≤ 1000; decide) rfl)))))) fun z6 => (t_addL (e := D.bl))) (fun _ => rfl) (fun some_1 =>
 b_retFE (er := (eL D.bl)) (bin2_PE (vS_p rfl) (lstT_e (argE (un1_PE (vS_p rfl) t_isO) fun z7 => (argE (un1_PE (vS_p rfl) t_isO) fun z8 => (arg0 (MP.me (e := (eL D.bl)) (a := [z7, z8]) (disp_e (v := ((eL D.bl) [z7, z8])) (by show 2 ≤ 1000; decide) rfl)))))) fun z9 => (t_addL (e := D.bl)))))))

noncomputable def t_law : Pg Bool :=
 ((Pg.rng1 (4 : Int)).bind fun z23 => Pg.forP (fun turn _ =>
 ((t_law_odd).bind fun a => (Pg.draws (1000 : Int)).bind fun b =>
 ((Pg.mkE (Str.ofString "Clash") []).bind fun z => ((Pg.mkE (Str.ofString "BadSource") []).bind fun z1 => ((Pg.mkE (Str.ofString "BadFact") [(Str.ofString "value", a)]).bind fun z2 => ((Pg.mkE (Str.ofString "NoFact") [(Str.ofString "value", a)]).bind fun z3 => ((Pg.mkE (Str.ofString "NothingDone") []).bind fun z4 => ((Pg.mkE (Str.ofString "BadText") [(Str.ofString "word", a), (Str.ofString "line", (D.int b))]).bind fun z5 => (.ret [z, z1, z2, z3, z4, z5]))))))).bind fun made =>
 ((Pg.rng1 (6 : Int)).bind fun z11 => Pg.forP (fun k _ =>
 ((((Pg.at_ made k).bind fun z6 => (t_law_classes z6)).bind fun z9 => (((Pg.rng1 (6 : Int)).bind fun z7 => (Pg.lcA (fun place => (decide (place = k))) z7)).bind fun z8 => (Pg.req (z8.length + [true, true].length ≤ sizeLine) (.ret (z8 ++ [true, true])))).bind fun z10 => (.ret ((!decide (z9 = z10))))).bind fun c => if c = true then (.ret (.ex false)) else (.ret (.nx ())) : Pg (Ct Unit Bool))) z11 ()).bind (Ct.elim (fun _ =>
 (((((Pg.at_ made (2 : Int)).bind fun z12 => (Pg.fldO (Str.ofString "BadFact") (Str.ofString "value") z12)).bind fun z13 => (((Pg.at_ made (3 : Int)).bind fun z14 => (Pg.fldO (Str.ofString "NoFact") (Str.ofString "value") z14)).bind fun z15 => (((Pg.at_ made (5 : Int)).bind fun z16 => (Pg.fldO (Str.ofString "BadText") (Str.ofString "line") z16)).bind fun z17 => (((Pg.at_ made (5 : Int)).bind fun z18 => (Pg.fldO (Str.ofString "BadText") (Str.ofString "word") z18)).bind fun z19 => (.ret [z13, z15, z17, z19]))))).bind fun z20 => (Pg.reprS ((eL eV) z20))).bind fun z21 => (Pg.reprS ((eL eV) [a, a, (D.int b), a])).bind fun z22 => (.ret ((!decide (z21 = z22))))).bind fun c1 => if c1 = true then (.ret (.ex false)) else (.ret (.nx ()))) fun r => .ret (.ex r)) : Pg (Ct Unit Bool))) z23 ()).bind (Ct.elim (fun _ =>
 .ret true) fun r => .ret r)
theorem T_law : Blk d_law [.no, .val (eK ()), .no, .no, .no, .no, .no, .no] t_law (JF D.bl) := by
 delta d_law t_law
 exact (b_seqC (er := D.bl) inj_F (b_forCE (ex := D.int) (er := D.bl) (mk := (fun s => [.no, .val (eK ()), .no, .no, .no, .no, .no, .no] : Unit → Env')) (s0 := ()) (rng1_P kD_p) rfl (fun turn _ => ⟨_, rfl, b_par2 (ea := eV) (eb := D.int) (env' := fun a b => [.no, .val (eK ()), .val (D.int turn), .val a, .val (D.int b), .no, .no, .no]) (callT_e (argP (vS_p rfl) (arg0 (T_law_odd)))) (callT_e (argP (vS_p rfl) (argP kD_p (arg0 t_draw)))) rfl (fun _ _ => rfl) (fun a b =>
 b_asgE (ea := (eL D.obj)) (env' := fun made => [.no, .val (eK ()), .val (D.int turn), .val a, .val (D.int b), .val ((eL D.obj) made), .no, .no]) (lstT_e (argE (callT_e (arg0 t_err0)) fun z => (argE (callT_e (arg0 t_err0)) fun z1 => (argE (callT_e (argP (vS_p rfl) (arg0 t_err1))) fun z2 => (argE (callT_e (argP (vS_p rfl) (arg0 t_err1))) fun z3 => (argE (callT_e (arg0 t_err0)) fun z4 => (argE (callT_e (argP (vS_p rfl) (argP (vS_p rfl) (arg0 t_err2)))) fun z5 => (arg0 (MP.me (e := (eL D.obj)) (a := [z, z1, z2, z3, z4, z5]) (disp_e (v := ((eL D.obj) [z, z1, z2, z3, z4, z5])) (by show 6 ≤ 1000; decide) rfl)))))))))) (fun _ => rfl) (fun made =>
 b_seqC (er := D.bl) inj_H (b_forCE (ex := D.int) (er := D.bl) (mk := (fun s => [.no, .val (eK ()), .val (D.int turn), .val a, .val (D.int b), .val ((eL D.obj) made), .no, .no] : Unit → Env')) (s0 := ()) (rng1_P kD_p) rfl (fun k _ => ⟨_, rfl, b_iteE (bin2_EE (callT_e (argE (bin2_PPE (vS_p rfl) (vS_p rfl) (t_ixL (e := D.obj))) fun z6 => (arg0 (T_law_classes _)))) (bin2_EP (lcT_E (ex := D.int) (eb := D.bl) (rng1_P kD_p) fun z7 => lc_A (ex := D.int) (eb := D.bl) (env1 := [.no, .val (eK ()), .val (D.int turn), .val a, .val (D.int b), .val ((eL D.obj) made), .val (D.int k), .no]) (g := fun place => (decide (place = k))) rfl rfl (fun place => ⟨_, rfl, (bin2_PP (vS_p rfl) (vS_p rfl) (t_eq (e := D.int) EqE.int (by decide) place k))⟩) _) (lstT_p (argPP kD_p (argPP kD_p (arg0P (disp_e (v := ((eL D.bl) [true, true])) (by show 2 ≤ 1000; decide) rfl))))) fun z8 => (t_addL (e := D.bl))) fun z9 z10 => (MP.me (e := D.bl) (t_ne (e := (eL D.bl)) (EqE.bl.lst) (by decide) z9 z10))) (b_assoc (b_ret (er := D.bl) (r := false) inj_H kD_p))
 (b_skip (b_endH (s := ()) rfl))⟩)) (fun _ _ =>
 b_iteE (bin2_EE (un1_E (lstT_e (argE (un1_E (bin2_PPE (vS_p rfl) kD_p (t_ixL (e := D.obj))) fun z12 => t_fldO) fun z13 => (argE (un1_E (bin2_PPE (vS_p rfl) kD_p (t_ixL (e := D.obj))) fun z14 => t_fldO) fun z15 => (argE (un1_E (bin2_PPE (vS_p rfl) kD_p (t_ixL (e := D.obj))) fun z16 => t_fldO) fun z17 => (argE (un1_E (bin2_PPE (vS_p rfl) kD_p (t_ixL (e := D.obj))) fun z18 => t_fldO) fun z19 => (arg0 (MP.me (e := (eL eV)) (a := [z13, z15, z17, z19]) (disp_e (v := ((eL eV) [z13, z15, z17, z19])) (by show 4 ≤ 1000; decide) rfl)))))))) fun z20 => t_reprS) (un1_PE (lstT_p (argPP (vS_p rfl) (argPP (vS_p rfl) (argPP (vS_p rfl) (argPP (vS_p rfl) (arg0P (disp_e (v := ((eL eV) [a, a, (D.int b), a])) (by show 4 ≤ 1000; decide) rfl))))))) t_reprS) fun z21 z22 => (MP.me (e := D.bl) (t_ne (e := D.str) EqE.str (by decide) z21 z22))) (b_assoc (b_ret (er := D.bl) (r := false) inj_H kD_p))
 (b_skip (b_endH (s := ()) rfl)))))⟩)) (fun _ _ =>
 b_retF (er := D.bl) (r := true) kD_p))

theorem env_eq : ((List.replicate 8 EV.no).set 1 (.val .deck)) = [.no, .val (eK ()), .no, .no, .no, .no, .no, .no] := rfl
theorem blk_law {t : DS} {env : Env'} {p : Pg Bool} (h : Blk t env p (JF D.bl)) (q : Pg.wp p ⟨most, []⟩ (fun b _ => b = true) fun _ _ => False) : t env { nx := fun _ _ => False, rt := fun d _ => d = .bl true } (fun _ _ _ => False) ⟨most, []⟩ := h _ _ _ (Pg.wp_mono (fun b n q => by show D.bl b = _; rw [q]) (fun _ _ q => q) q)
theorem law_of (h : Pg.wp t_law ⟨most, []⟩ (fun b _ => b = true) fun _ _ => False) : LawMath := by
 unfold LawMath
 rw [env_eq]
 have T := T_law
 revert T h
 generalize t_law = p
 intro h T
 exact blk_law T h
end DL

namespace DL
open PySem PySem.Spec L2
mutual
def noObj : D → Bool
  | .obj _ => false
  | .dct _ _ => false
  | .deck => false
  | .tup l => noObjL l
  | .lst l => noObjL l
  | .non => true
  | .bl _ => true
  | .int _ => true
  | .str _ => true
def noObjL : List D → Bool
  | [] => true
  | d :: l => noObj d && noObjL l
end
mutual
theorem rsv_no {s : List (Addr × OS)} : ∀ {d : D}, noObj d = true → rsv s d = some d
  | .obj _, h => by cases h
  | .dct _ _, h => by cases h
  | .deck, h => by cases h
  | .tup l, h => by unfold rsv; rw [rsvL_no (by simpa [noObj] using h)]; rfl
  | .lst l, h => by unfold rsv; rw [rsvL_no (by simpa [noObj] using h)]; rfl
  | .non, _ => rfl
  | .bl _, _ => rfl
  | .int _, _ => rfl
  | .str _, _ => rfl
theorem rsvL_no {s : List (Addr × OS)} : ∀ {l : List D}, noObjL l = true → rsvL s l = some l
  | [], _ => rfl
  | d :: l, h => by
    unfold noObjL at h
    rw [Bool.and_eq_true] at h
    unfold rsvL
    rw [rsv_no h.1, rsvL_no h.2]
end
mutual
theorem rsv_gr {n n' : Gn} (g : Gr n n') : ∀ {d d' : D}, rsv n.sto d = some d' → rsv n'.sto d = some d'
  | .obj a, d', h => by
    obtain ⟨l, h1, rfl⟩ := rsv_obj h
    unfold rsv
    rw [g a _ h1]
  | .dct _ _, d', h => h
  | .deck, d', h => h
  | .tup l, d', h => by
    obtain ⟨l1, h1, rfl⟩ := rsv_tup h
    unfold rsv; rw [rsvL_gr g h1]; rfl
  | .lst l, d', h => by
    obtain ⟨l1, h1, rfl⟩ := rsv_lst h
    unfold rsv; rw [rsvL_gr g h1]; rfl
  | .non, d', h => h
  | .bl _, d', h => h
  | .int _, d', h => h
  | .str _, d', h => h
theorem rsvL_gr {n n' : Gn} (g : Gr n n') : ∀ {l l' : List D}, rsvL n.sto l = some l' → rsvL n'.sto l = some l'
  | [], l', h => h
  | d :: l, l', h => by
    obtain ⟨d1, l1, h1, h2, rfl⟩ := rsvL_cons h
    unfold rsvL
    rw [rsv_gr g h1, rsvL_gr g h2]
end
/-- a value that can be shown -/
def FitO (n : Gn) (d : D) : Prop := lf d = true ∧ ∃ d', rsv n.sto d = some d' ∧ Sh d' 5 3000
theorem FitO.gr {n n' : Gn} {d : D} (g : Gr n n') (h : FitO n d) : FitO n' d := ⟨h.1, h.2.imp fun _ q => ⟨rsv_gr g q.1, q.2⟩⟩
/-- the values that are no lists -/
def oddL : List D := [D.non, (D.bl true), (D.bl false), (D.int (0 : Int)), (D.int (1 : Int)), (D.int (7 : Int)), (D.str (Str.ofString "")), (D.str (Str.ofString "a")), (D.str (Str.ofString "A")), (D.str (Str.ofString "?")), (D.str (Str.ofString "?0")), (D.str (Str.ofString "?1")), (D.str (Str.ofString "?01")), (D.str (Str.ofString "?123456")), (D.str (Str.ofString "a1")), (D.str (Str.ofString "aB")), (D.str (Str.ofString "abcdefghi")), (D.str (Str.ofString "a b")),
  (D.tup []), (D.tup [(D.str (Str.ofString "a"))]), (D.tup [(D.str (Str.ofString "a")), (D.str (Str.ofString "b"))]), (D.tup [(D.str (Str.ofString "a")), (D.str (Str.ofString "?1"))]), (D.tup [(D.str (Str.ofString "a")), (D.str (Str.ofString "A"))]), (D.tup [(D.tup [(D.str (Str.ofString "a")), (D.str (Str.ofString "b"))])]), (D.tup [(D.str (Str.ofString "?1")), (D.str (Str.ofString "a"))]),
  (D.tup [(D.str (Str.ofString "a")), (D.tup [(D.str (Str.ofString "b"))])]), (D.tup [(D.str (Str.ofString "a")), (D.str (Str.ofString "b")), (D.str (Str.ofString "c")), (D.str (Str.ofString "d")), (D.str (Str.ofString "e")), (D.str (Str.ofString "f"))]), (D.tup [(D.str (Str.ofString "a")), (D.int (1 : Int))]), (D.str (Str.ofString "zz")), (D.str (Str.ofString "?x")), (D.tup [(D.str (Str.ofString "")), (D.str (Str.ofString "a"))])]
def fine5 (d : D) : Bool := okS d && decide ((py d).depth ≤ 5) && decide (rl d ≤ 3000)
theorem fine5_of {d : D} (h : fine5 d = true) : Sh d 5 3000 := by
  unfold fine5 at h
  rw [Bool.and_eq_true, Bool.and_eq_true, decide_eq_true_eq, decide_eq_true_eq] at h
  exact ⟨h.1.1, h.1.2, h.2⟩
theorem odd_all : (oddL.all fun d => lf d && noObj d && fine5 d) = true := by decide +kernel
theorem odd_fit {n : Gn} {d : D} (h : d ∈ oddL) : FitO n d := by
  have q := List.all_eq_true.mp odd_all d h
  simp only [Bool.and_eq_true] at q
  exact ⟨q.1.1, d, rsv_no q.1.2, fine5_of q.2⟩
theorem obj_fit {n : Gn} {a : Addr} {l : List D} (h : slook n.sto a = some (.lst l)) (f : fine5 (.lst l) = true) : FitO n (.obj a) := ⟨rfl, .lst l, by unfold rsv; rw [h], fine5_of f⟩
theorem one_wp {α : Type} {l : List α} {n : Gn} {Q : α → Gn → Prop} {X : XD → Gn → Prop} (hl : l ≠ []) (h2 : l.length < 1073741824) (hn : 1 ≤ n.k) (q : ∀ a ∈ l, Q a ⟨n.k - 1, n.sto⟩) : Pg.wp (t_one l) n Q X := by
  have hp := List.length_pos_iff.mpr hl
  refine Pg.wp_bind.mpr ⟨by omega, by omega, by omega, fun r h0 h1 => ?_⟩
  obtain ⟨m, rfl⟩ := Int.eq_ofNat_of_zero_le h0
  have hm : m < l.length := by omega
  show Pg.wp (Pg.at_ l (m : Int)) _ Q X
  unfold Pg.at_
  rw [atI_nat (List.getElem?_eq_getElem hm)]
  exact q _ (List.getElem_mem hm)
theorem odd_wp {n : Gn} {Q : D → Gn → Prop} {X : XD → Gn → Prop} (hn : 1 ≤ n.k) (q : ∀ d n', n'.k = n.k - 1 → Gr n n' → FitO n' d → Q d n') : Pg.wp t_law_odd n Q X := by
  unfold t_law_odd
  rw [Pg.bind_ret]
  simp only [Pg.bind_assoc]
  refine Pg.wp_bind.mpr (newL_wp rfl fun p h1 => ?_)
  simp only [Pg.bind_ret]
  refine Pg.wp_bind.mpr (newL_wp (by decide +kernel) fun r h2 => ?_)
  rw [Pg.req_t (le_sz (by simp)), Pg.bind_ret, Pg.req_t (le_sz (by simp)), Pg.bind_ret]
  refine one_wp (by simp) (by simp) hn fun d hd => ?_
  have g1 : Gr n (n.add p (.lst (List.map eV []))) := Gr.add h1
  have g2 : Gr (n.add p (.lst (List.map eV []))) ((n.add p (.lst (List.map eV []))).add r (.lst (List.map D.str [(Str.ofString "a"), (Str.ofString "b")]))) := Gr.add h2
  refine q d _ rfl (g1.trans g2) ?_
  have k1 : slook ((n.add p (.lst (List.map eV []))).add r (.lst (List.map D.str [(Str.ofString "a"), (Str.ofString "b")]))).sto p = some (.lst []) := g2 _ _ Gn.add_look
  have k2 : slook ((n.add p (.lst (List.map eV []))).add r (.lst (List.map D.str [(Str.ofString "a"), (Str.ofString "b")]))).sto r = some (.lst [D.str (Str.ofString "a"), D.str (Str.ofString "b")]) := Gn.add_look
  have hc : d ∈ oddL ∨ d = .obj p ∨ d = .obj r := by
    simp only [List.mem_append, List.mem_cons, List.not_mem_nil, or_false] at hd
    unfold oddL
    simp only [List.mem_cons, List.not_mem_nil, or_false]
    grind
  rcases hc with hc | rfl | rfl
  · exact odd_fit hc
  · exact obj_fit (n := ⟨n.k - 1, _⟩) k1 (by decide +kernel)
  · exact obj_fit (n := ⟨n.k - 1, _⟩) k2 (by decide +kernel)
end DL

namespace DL
open PySem PySem.Spec L2
section
variable {β : Type} {n : Gn} {a : Addr} {x f : Str} {fs : List (Str × D)} {X : XD → Gn → Prop}
theorem isO_wp {tb : List (Str × Bool)} {b : Bool} {Q : Bool → Gn → Prop} (h : slook n.sto a = some (.err x fs)) (hb : tb.lookup x = some b) (q : Q b n) : Pg.wp (Pg.isO tb a) n Q X := by
  refine ⟨_, h, ?_⟩
  dsimp only
  rw [hb]
  exact q
theorem fldO_wp {v : D} {Q : D → Gn → Prop} (h : slook n.sto a = some (.err x fs)) (hv : fs.lookup f = some v) (q : Q v n) : Pg.wp (Pg.fldO x f a) n Q X := by
  refine ⟨_, h, ?_⟩
  dsimp only
  rw [if_pos rfl, hv]
  exact q
theorem mkE_wp {Q : Addr → Gn → Prop} (hl : lfL (fs.map (·.2)) = true) (q : ∀ a, Gr n (n.add a (.err x fs)) → Q a (n.add a (.err x fs))) : Pg.wp (Pg.mkE x fs) n Q X := ⟨hl, fun a ha => q a (Gr.add ha)⟩
theorem forP_nil {α σ ρ : Type} {body : α → σ → Pg (Ct σ ρ)} {s : σ} {Q : Ct σ ρ → Gn → Prop} (q : Q (.nx s) n) : Pg.wp (Pg.forP body [] s) n Q X := q
theorem forP_wp {α σ ρ : Type} {body : α → σ → Pg (Ct σ ρ)} {y : α} {ys : List α} {s s' : σ} {Q : Ct σ ρ → Gn → Prop} (h : Pg.wp (body y s) n (fun r n' => r = .nx s' ∧ n' = n) X) (q : Pg.wp (Pg.forP body ys s') n Q X) : Pg.wp (Pg.forP body (y :: ys) s) n Q X := by
  refine Pg.wp_bind.mpr (Pg.wp_mono (fun r n' z => ?_) (fun _ _ z => z) h)
  obtain ⟨rfl, rfl⟩ := z
  exact q
end
theorem eLV' {l : List D} : eL eV l = .lst l := by
  show D.lst (l.map eV) = _
  rw [show (eV : D → D) = id from rfl, List.map_id]
abbrev sC : Str := Str.ofString "Clash"
abbrev sS : Str := Str.ofString "BadSource"
abbrev sF : Str := Str.ofString "BadFact"
abbrev sN : Str := Str.ofString "NoFact"
abbrev sD : Str := Str.ofString "NothingDone"
abbrev sT : Str := Str.ofString "BadText"
abbrev six : List Str := [sC, sS, sF, sN, sD, sT]
abbrev t8 : List (List (Str × Bool)) := [tbl [sC] six, tbl [sS] six, tbl [sF] six, tbl [sN] six, tbl [sD] six, tbl [sT] six, tbl six six, tbl six six]
theorem cls_wp {n : Gn} {a : Addr} {x : Str} {fs : List (Str × D)} {Q : List Bool → Gn → Prop} {X : XD → Gn → Prop} {b1 b2 b3 b4 b5 b6 b7 b8 : Bool} (h : slook n.sto a = some (.err x fs)) (hb : t8.map (·.lookup x) = [some b1, some b2, some b3, some b4, some b5, some b6, some b7, some b8]) (q : Q [b1, b2, b3, b4, b5, b6, b7, b8] n) :
    Pg.wp (t_law_classes a) n Q X := by
  simp only [List.map_cons, List.map_nil, List.cons.injEq, and_true] at hb
  obtain ⟨h1, h2, h3, h4, h5, h6, h7, h8⟩ := hb
  unfold t_law_classes
  simp only [Pg.bind_assoc]
  refine Pg.wp_bind.mpr (isO_wp h h1 (Pg.wp_bind.mpr (isO_wp h h2 (Pg.wp_bind.mpr (isO_wp h h3 (Pg.wp_bind.mpr (isO_wp h h4 ?_)))))))
  try simp only [Pg.bind_ret]
  refine Pg.wp_bind.mpr (isO_wp h h5 (Pg.wp_bind.mpr (isO_wp h h6 ?_)))
  try simp only [Pg.bind_ret]
  rw [Pg.req_t (le_sz (by simp)), Pg.bind_ret]
  refine Pg.wp_bind.mpr (isO_wp h h7 (Pg.wp_bind.mpr (isO_wp h h8 ?_)))
  try simp only [Pg.bind_ret]
  rw [Pg.req_t (le_sz (by simp))]
  exact q
theorem turn_wp {n : Gn} {a : Addr} {x : Str} {fs : List (Str × D)} {k : Int} {made : List Addr} {X : XD → Gn → Prop} {b1 b2 b3 b4 b5 b6 : Bool} (hk : Pg.at_ made k = .ret a) (h : slook n.sto a = some (.err x fs)) (hb : t8.map (·.lookup x) = [some b1, some b2, some b3, some b4, some b5, some b6, some true, some true])
    (he : [b1, b2, b3, b4, b5, b6] = (rng 0 6).map fun place => decide (place = k)) :
    Pg.wp (((Pg.at_ made k).bind fun a => (t_law_classes a).bind fun a => (Pg.ret [0, 1, 2, 3, 4, 5]).bind fun a_1 => (Pg.lcA (fun place => decide (place = k)) a_1).bind fun a_2 => (Pg.req (a_2.length + [true, true].length ≤ sizeLine) (Pg.ret (a_2 ++ [true, true]))).bind fun a_3 => if (!decide (a = a_3)) = true then Pg.ret (Ct.ex false) else Pg.ret (Ct.nx ())) : Pg (Ct Unit Bool)) n (fun r n' => r = .nx () ∧ n' = n) X := by
  rw [hk, Pg.bind_ret]
  refine Pg.wp_bind.mpr (cls_wp h hb ?_)
  rw [Pg.bind_ret, lcA_t (by decide), Pg.bind_ret, show ([0, 1, 2, 3, 4, 5] : List Int) = rng 0 6 from by decide, ← he, Pg.req_t (le_sz (by simp)), Pg.bind_ret, if_neg (by simp)]
  exact ⟨rfl, rfl⟩
theorem tb_C : t8.map (·.lookup sC) = [some true, some false, some false, some false, some false, some false, some true, some true] := by decide +kernel
theorem tb_S : t8.map (·.lookup sS) = [some false, some true, some false, some false, some false, some false, some true, some true] := by decide +kernel
theorem tb_F : t8.map (·.lookup sF) = [some false, some false, some true, some false, some false, some false, some true, some true] := by decide +kernel
theorem tb_N : t8.map (·.lookup sN) = [some false, some false, some false, some true, some false, some false, some true, some true] := by decide +kernel
theorem tb_D : t8.map (·.lookup sD) = [some false, some false, some false, some false, some true, some false, some true, some true] := by decide +kernel
theorem tb_T : t8.map (·.lookup sT) = [some false, some false, some false, some false, some false, some true, some true, some true] := by decide +kernel
abbrev fV : Str := Str.ofString "value"
abbrev fW : Str := Str.ofString "word"
abbrev fL : Str := Str.ofString "line"
theorem law_math : LawMath := by
  refine law_of (law_rn 8 (by decide) ?_)
  unfold t_law
  rw [rng1_t (by omega), Pg.bind_ret]
  refine Rn.elim (P := fun _ => True) (E := fun e => e = true) 8 ((Rn.forP (fun _ _ => True) (fun e => e = true) 2 trivial fun done x todo s _ _ => ⟨fun n Q' X hn q => ?_⟩).mono (by rw [rng_len]; decide) fun _ z => z) (Nat.le_refl _) (fun _ _ => Rn.ret rfl) (fun e he => Rn.ret he)
  refine Pg.wp_bind.mpr (odd_wp (by omega) fun a n0 k0 g0 f0 => ?_)
  refine Pg.wp_bind.mpr ((Rn.draws (by omega) (by omega)).run n0 _ _ (by omega) fun b n1 c1 c2 g1 hb => ?_)
  have f1 := f0.gr g1
  have la := f1.1
  simp only [Pg.bind_assoc]
  refine Pg.wp_bind.mpr (mkE_wp rfl fun e0 r0 => Pg.wp_bind.mpr (mkE_wp rfl fun e1 r1 => Pg.wp_bind.mpr (mkE_wp (by simp [lfL, la]) fun e2 r2 => Pg.wp_bind.mpr (mkE_wp (by simp [lfL, la]) fun e3 r3 => Pg.wp_bind.mpr (mkE_wp rfl fun e4 r4 => Pg.wp_bind.mpr (mkE_wp (by simp [lfL, la, lf]) fun e5 r5 => ?_))))))
  generalize hN : (((((n1.add e0 _).add e1 _).add e2 _).add e3 _).add e4 _).add e5 _ = N
  have s5 : slook N.sto e5 = some (.err sT [(fW, a), (fL, D.int b)]) := by rw [← hN]; exact Gn.add_look
  have s4 : slook N.sto e4 = some (.err sD []) := by rw [← hN]; exact r5 _ _ Gn.add_look
  have s3 : slook N.sto e3 = some (.err sN [(fV, a)]) := by rw [← hN]; exact r5 _ _ (r4 _ _ Gn.add_look)
  have s2 : slook N.sto e2 = some (.err sF [(fV, a)]) := by rw [← hN]; exact r5 _ _ (r4 _ _ (r3 _ _ Gn.add_look))
  have s1 : slook N.sto e1 = some (.err sS []) := by rw [← hN]; exact r5 _ _ (r4 _ _ (r3 _ _ (r2 _ _ Gn.add_look)))
  have s0 : slook N.sto e0 = some (.err sC []) := by rw [← hN]; exact r5 _ _ (r4 _ _ (r3 _ _ (r2 _ _ (r1 _ _ Gn.add_look))))
  have gN : Gr n1 N := by rw [← hN]; exact ((((r0.trans r1).trans r2).trans r3).trans r4).trans r5
  have kN : N.k = n1.k := by rw [← hN]; rfl
  clear hN
  have f2 := f1.gr gN
  simp only [Pg.bind_ret]
  rw [rng1_t (by omega), Pg.bind_ret]
  refine Pg.wp_bind.mpr ?_
  rw [show rng 0 6 = [0, 1, 2, 3, 4, 5] from by decide]
  refine forP_wp (s' := ()) ?_ (forP_wp (s' := ()) ?_ (forP_wp (s' := ()) ?_ (forP_wp (s' := ()) ?_ (forP_wp (s' := ()) ?_ (forP_wp (s' := ()) ?_ ?_)))))
  · exact turn_wp at_0 s0 tb_C (by decide)
  · exact turn_wp at_1 s1 tb_S (by decide)
  · exact turn_wp at_2 s2 tb_F (by decide)
  · exact turn_wp at_3 s3 tb_N (by decide)
  · exact turn_wp (at_nat (l := [e0, e1, e2, e3, e4, e5]) (k := 4) rfl) s4 tb_D (by decide)
  · exact turn_wp (at_nat (l := [e0, e1, e2, e3, e4, e5]) (k := 5) rfl) s5 tb_T (by decide)
  refine forP_nil ?_
  simp only [Ct.elim]
  rw [at_2, Pg.bind_ret]
  have v1 : List.lookup fV [(fV, a)] = some a := by
    rw [List.lookup_cons, show (fV == fV) = true from by decide +kernel]
  have v2 : List.lookup fW [(fW, a), (fL, D.int b)] = some a := by
    rw [List.lookup_cons, show (fW == fW) = true from by decide +kernel]
  have v3 : List.lookup fL [(fW, a), (fL, D.int b)] = some (D.int b) := by
    rw [List.lookup_cons, show (fL == fW) = false from by decide +kernel]
    show List.lookup _ _ = _
    rw [List.lookup_cons, show (fL == fL) = true from by decide +kernel]
  refine Pg.wp_bind.mpr (fldO_wp s2 v1 ?_)
  rw [at_3, Pg.bind_ret]
  refine Pg.wp_bind.mpr (fldO_wp s3 v1 ?_)
  rw [show Pg.at_ [e0, e1, e2, e3, e4, e5] (5 : Int) = .ret e5 from at_nat (k := 5) rfl]
  simp only [Pg.bind_ret]
  refine Pg.wp_bind.mpr (fldO_wp s5 v3 ?_)
  refine Pg.wp_bind.mpr (fldO_wp s5 v2 ?_)
  try simp only [Pg.bind_ret]
  obtain ⟨la2, a', ha, sa⟩ := f2
  have hr : rsv N.sto (eL eV [a, a, .int b, a]) = some (.lst [a', a', .int b, a']) := by
    rw [eLV']
    unfold rsv rsvL rsvL rsvL rsvL rsvL
    rw [ha]
    rfl
  have sb : Sh (.int b) 5 3000 := ⟨by
    show decide _ = true
    rw [decide_eq_true_eq]
    have := Nat.log2_le_self b.natAbs
    omega, Nat.zero_le _, by
    show 1922 ≤ 3000
    decide⟩
  have sh : shOk (.lst [a', a', .int b, a']) = true := (ShL.cons sa (ShL.cons sa (ShL.cons sb (ShL.one sa)))).lst.sh (by decide) (by decide)
  refine Pg.wp_bind.mpr (reprS_wp hr sh (Pg.wp_bind.mpr (reprS_wp hr sh ?_)))
  rw [if_neg (by simp)]
  exact q _ _ (by omega) (by omega) (((g0.trans g1).trans gN)) trivial
end DL

open PySem PySem.W PyProof.Rows
set_option maxHeartbeats 0 in
theorem PySem.Challenge.cw_corestore_k31_errors_made_by_hand_holds : PySem.Challenge.rw_corestore_k31_errors_made_by_hand.Holds := by
  w_on; o_law; k_head; (case hw => w_witness2)
  k_fill
  refine DL.top_law (l := PySem.Challenge.rw_corestore_k31_errors_made_by_hand) (n := 63) (k := 3) (x := "_law_script") (qual := "law") (st := DL.s_law) rfl (by decide) rfl ⟨rfl, by decide, by decide⟩ DL.sc_law (fun w h Y => PySem.W.kIn_of Y) ?F
  case F =>
    intro w mg fa h KX G hmg
    refine' DL.all_mk DL.law_math KX G hmg ?a1 ?l1 ?c1 ?k1 ?a2 ?l2 ?c2 ?k2 ?a3 ?l3 ?c3 ?k3 ?a4 ?l4 ?c4 ?k4 ?a5 ?l5 ?c5 ?k5 ?a6 ?l6 ?c6 ?k6 ?y_len ?y_isinstance ?y_ValueError ?y_range ?y_repr ?y_int ?y_abs ?y_list ?a_Clash ?xx_Clash ?xk_Clash ?xb_Clash ?xt_Clash ?xi_Clash ?xs_Clash ?a_BadSource ?xx_BadSource ?xk_BadSource ?xb_BadSource ?xt_BadSource ?xi_BadSource ?xs_BadSource ?a_NothingDone ?xx_NothingDone ?xk_NothingDone ?xb_NothingDone ?xt_NothingDone ?xi_NothingDone ?xs_NothingDone ?a_BadFact ?xl_BadFact ?xsa_BadFact ?xb3_BadFact ?xt3_BadFact ?xk3_BadFact ?xi3_BadFact ?xf3_BadFact ?xl3_BadFact ?xw3_BadFact ?xg3_BadFact ?xn1_BadFact ?a_NoFact ?xl_NoFact ?xsa_NoFact ?xb3_NoFact ?xt3_NoFact ?xk3_NoFact ?xi3_NoFact ?xf3_NoFact ?xl3_NoFact ?xw3_NoFact ?xg3_NoFact ?xn1_NoFact ?a_BadText ?xl_BadText ?xsa_BadText ?xb3_BadText ?xt3_BadText ?xk3_BadText ?xi3_BadText ?xf3_BadText ?xl3_BadText ?xw3_BadText ?xg3_BadText ?xn1_BadText ?xn2_BadText ?a_CoreError ?xk3_BadText_Clash ?xc1_BadText ?xc2_BadText ?xc3_BadText ?xc4_BadText ?xc5_BadText ?xc6 ?xc7 ?xc8_BadText ?xk3_NothingDone_Clash ?xc1_NothingDone ?xc2_NothingDone ?xc3_NothingDone ?xc4_NothingDone ?xc5_NothingDone ?xc8_NothingDone ?xk3_NoFact_Clash ?xc1_NoFact ?xc2_NoFact ?xc3_NoFact ?xc4_NoFact ?xc5_NoFact ?xc8_NoFact ?xk3_BadFact_Clash ?xc1_BadFact ?xc2_BadFact ?xc3_BadFact ?xc4_BadFact ?xc5_BadFact ?xc8_BadFact ?xk3_BadSource_Clash ?xc1_BadSource ?xc2_BadSource ?xc3_BadSource ?xc4_BadSource ?xc5_BadSource ?xc8_BadSource ?xk3_Clash_Clash ?xc1_Clash ?xc2_Clash ?xc3_Clash ?xc4_Clash ?xc5_Clash ?xc8_Clash ?xk3_BadText_BadSource ?xk3_NothingDone_BadSource ?xk3_NoFact_BadSource ?xk3_BadFact_BadSource ?xk3_BadSource_BadSource ?xk3_Clash_BadSource ?xk3_BadText_BadFact ?xk3_NothingDone_BadFact ?xk3_NoFact_BadFact ?xk3_BadFact_BadFact ?xk3_BadSource_BadFact ?xk3_Clash_BadFact ?xk3_BadText_NoFact ?xk3_NothingDone_NoFact ?xk3_NoFact_NoFact ?xk3_BadFact_NoFact ?xk3_BadSource_NoFact ?xk3_Clash_NoFact ?xk3_BadText_NothingDone ?xk3_NothingDone_NothingDone ?xk3_NoFact_NothingDone ?xk3_BadFact_NothingDone ?xk3_BadSource_NothingDone ?xk3_Clash_NothingDone ?xk3_BadText_BadText ?xk3_NothingDone_BadText ?xk3_NoFact_BadText ?xk3_BadFact_BadText ?xk3_BadSource_BadText ?xk3_Clash_BadText ?xk3_BadText_CoreError ?xk3_NothingDone_CoreError ?xk3_NoFact_CoreError ?xk3_BadFact_CoreError ?xk3_BadSource_CoreError ?xk3_Clash_CoreError ?xk3_BadText_ValueError ?xk3_NothingDone_ValueError ?xk3_NoFact_ValueError ?xk3_BadFact_ValueError ?xk3_BadSource_ValueError ?xk3_Clash_ValueError ?xn4_BadFact_value ?xn4_NoFact_value ?xn4_BadText_line ?xn4_BadText_word
    (case a1 => k_is); (case l1 => k_is); (case c1 => k_is); (case k1 => k_is); (case a2 => k_is); (case l2 => k_is); (case c2 => k_is); (case k2 => k_is); (case a3 => k_is); (case l3 => k_is); (case c3 => k_is); (case k3 => k_is); (case a4 => k_is); (case l4 => k_is); (case c4 => k_is); (case k4 => k_is); (case a5 => k_is); (case l5 => k_is); (case c5 => k_is); (case k5 => k_is); (case a6 => k_is); (case l6 => k_is); (case c6 => k_is); (case k6 => k_is); (case y_len => k_is); (case y_isinstance => k_is); (case y_ValueError => k_is); (case y_range => k_is); (case y_repr => k_is); (case y_int => k_is); (case y_abs => k_is); (case y_list => k_is); (case a_Clash => k_is); (case xx_Clash => k_exc); (case xk_Clash => k_is); (case xb_Clash => k_is); (case xt_Clash => k_is); (case xi_Clash => k_is); (case xs_Clash => first | rfl | k_is); (case a_BadSource => k_is); (case xx_BadSource => k_exc); (case xk_BadSource => k_is); (case xb_BadSource => k_is); (case xt_BadSource => k_is); (case xi_BadSource => k_is); (case xs_BadSource => first | rfl | k_is); (case a_NothingDone => k_is); (case xx_NothingDone => k_exc); (case xk_NothingDone => k_is); (case xb_NothingDone => k_is); (case xt_NothingDone => k_is); (case xi_NothingDone => k_is); (case xs_NothingDone => first | rfl | k_is); (case a_BadFact => first | k_is | rfl); (case xl_BadFact => first | k_is | rfl); (case xsa_BadFact => first | k_is | rfl); (case xb3_BadFact => first | k_is | rfl); (case xt3_BadFact => first | k_is | rfl); (case xk3_BadFact => first | k_is | rfl); (case xi3_BadFact => first | k_is | rfl); (case xf3_BadFact => first | k_is | rfl); (case xl3_BadFact => first | k_is | rfl); (case xw3_BadFact => first | k_is | rfl); (case xg3_BadFact => first | k_is | rfl); (case xn1_BadFact => first | k_is | rfl); (case a_NoFact => first | k_is | rfl); (case xl_NoFact => first | k_is | rfl); (case xsa_NoFact => first | k_is | rfl); (case xb3_NoFact => first | k_is | rfl); (case xt3_NoFact => first | k_is | rfl); (case xk3_NoFact => first | k_is | rfl); (case xi3_NoFact => first | k_is | rfl); (case xf3_NoFact => first | k_is | rfl); (case xl3_NoFact => first | k_is | rfl); (case xw3_NoFact => first | k_is | rfl); (case xg3_NoFact => first | k_is | rfl); (case xn1_NoFact => first | k_is | rfl); (case a_BadText => first | k_is | rfl); (case xl_BadText => first | k_is | rfl); (case xsa_BadText => first | k_is | rfl); (case xb3_BadText => first | k_is | rfl); (case xt3_BadText => first | k_is | rfl); (case xk3_BadText => first | k_is | rfl); (case xi3_BadText => first | k_is | rfl); (case xf3_BadText => first | k_is | rfl); (case xl3_BadText => first | k_is | rfl); (case xw3_BadText => first | k_is | rfl); (case xg3_BadText => first | k_is | rfl); (case xn1_BadText => first | k_is | rfl); (case xn2_BadText => first | k_is | rfl); (case a_CoreError => first | k_is | rfl); (case xk3_BadText_Clash => first | k_is | rfl); (case xc1_BadText => first | k_is | rfl); (case xc2_BadText => first | k_is | rfl); (case xc3_BadText => first | k_is | rfl); (case xc4_BadText => first | k_is | rfl); (case xc5_BadText => first | k_is | rfl); (case xc6 => first | k_is | rfl); (case xc7 => first | k_is | rfl); (case xc8_BadText => first | k_is | rfl); (case xk3_NothingDone_Clash => first | k_is | rfl); (case xc1_NothingDone => first | k_is | rfl); (case xc2_NothingDone => first | k_is | rfl); (case xc3_NothingDone => first | k_is | rfl); (case xc4_NothingDone => first | k_is | rfl); (case xc5_NothingDone => first | k_is | rfl); (case xc8_NothingDone => first | k_is | rfl); (case xk3_NoFact_Clash => first | k_is | rfl); (case xc1_NoFact => first | k_is | rfl); (case xc2_NoFact => first | k_is | rfl); (case xc3_NoFact => first | k_is | rfl); (case xc4_NoFact => first | k_is | rfl); (case xc5_NoFact => first | k_is | rfl); (case xc8_NoFact => first | k_is | rfl); (case xk3_BadFact_Clash => first | k_is | rfl); (case xc1_BadFact => first | k_is | rfl); (case xc2_BadFact => first | k_is | rfl); (case xc3_BadFact => first | k_is | rfl); (case xc4_BadFact => first | k_is | rfl); (case xc5_BadFact => first | k_is | rfl); (case xc8_BadFact => first | k_is | rfl); (case xk3_BadSource_Clash => first | k_is | rfl); (case xc1_BadSource => first | k_is | rfl); (case xc2_BadSource => first | k_is | rfl); (case xc3_BadSource => first | k_is | rfl); (case xc4_BadSource => first | k_is | rfl); (case xc5_BadSource => first | k_is | rfl); (case xc8_BadSource => first | k_is | rfl); (case xk3_Clash_Clash => first | k_is | rfl); (case xc1_Clash => first | k_is | rfl); (case xc2_Clash => first | k_is | rfl); (case xc3_Clash => first | k_is | rfl); (case xc4_Clash => first | k_is | rfl); (case xc5_Clash => first | k_is | rfl); (case xc8_Clash => first | k_is | rfl); (case xk3_BadText_BadSource => first | k_is | rfl); (case xk3_NothingDone_BadSource => first | k_is | rfl); (case xk3_NoFact_BadSource => first | k_is | rfl); (case xk3_BadFact_BadSource => first | k_is | rfl); (case xk3_BadSource_BadSource => first | k_is | rfl); (case xk3_Clash_BadSource => first | k_is | rfl); (case xk3_BadText_BadFact => first | k_is | rfl); (case xk3_NothingDone_BadFact => first | k_is | rfl); (case xk3_NoFact_BadFact => first | k_is | rfl); (case xk3_BadFact_BadFact => first | k_is | rfl); (case xk3_BadSource_BadFact => first | k_is | rfl); (case xk3_Clash_BadFact => first | k_is | rfl); (case xk3_BadText_NoFact => first | k_is | rfl); (case xk3_NothingDone_NoFact => first | k_is | rfl); (case xk3_NoFact_NoFact => first | k_is | rfl); (case xk3_BadFact_NoFact => first | k_is | rfl); (case xk3_BadSource_NoFact => first | k_is | rfl); (case xk3_Clash_NoFact => first | k_is | rfl); (case xk3_BadText_NothingDone => first | k_is | rfl); (case xk3_NothingDone_NothingDone => first | k_is | rfl); (case xk3_NoFact_NothingDone => first | k_is | rfl); (case xk3_BadFact_NothingDone => first | k_is | rfl); (case xk3_BadSource_NothingDone => first | k_is | rfl); (case xk3_Clash_NothingDone => first | k_is | rfl); (case xk3_BadText_BadText => first | k_is | rfl); (case xk3_NothingDone_BadText => first | k_is | rfl); (case xk3_NoFact_BadText => first | k_is | rfl); (case xk3_BadFact_BadText => first | k_is | rfl); (case xk3_BadSource_BadText => first | k_is | rfl); (case xk3_Clash_BadText => first | k_is | rfl); (case xk3_BadText_CoreError => first | k_is | rfl); (case xk3_NothingDone_CoreError => first | k_is | rfl); (case xk3_NoFact_CoreError => first | k_is | rfl); (case xk3_BadFact_CoreError => first | k_is | rfl); (case xk3_BadSource_CoreError => first | k_is | rfl); (case xk3_Clash_CoreError => first | k_is | rfl); (case xk3_BadText_ValueError => first | k_is | rfl); (case xk3_NothingDone_ValueError => first | k_is | rfl); (case xk3_NoFact_ValueError => first | k_is | rfl); (case xk3_BadFact_ValueError => first | k_is | rfl); (case xk3_BadSource_ValueError => first | k_is | rfl); (case xk3_Clash_ValueError => first | k_is | rfl); (case xn4_BadFact_value => first | k_is | rfl); (case xn4_NoFact_value => first | k_is | rfl); (case xn4_BadText_line => first | k_is | rfl); (case xn4_BadText_word => first | k_is | rfl)
