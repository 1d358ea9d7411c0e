import PyProof.Rows.All
import HandS.ForMost
import HandS.ForExc
import HandS.Walk
import HandS.Spec
import KE.KDictKeyed
import HandS.Zip
import HandS.TupAny
import HandS.TupMul
import HandS.TupLe
import HandS.IsInst
import HandS.Flow
import HandS.TryMany
import HandS.ExcIs
import HandS.CallLocal
import HandS.More
import HandS.Deep
import HandS.SetFor
import HandS.Sort
import HandS.Conv
import HandS.Text
import HandS.Flt
import HandS.Style
import KE.GoesMore
import KE.DataMinMax
import HandS.TupSets
import KE.SortData
import KE.KDictLaws
import KE.KDictPairs
import PyProof.ListIndexNeg
import HandS.TryOnly
import KE.GoesRaise
import KE.KAsSuite
import PySem.Challenge.RW_nearall_k23_texts
import HandS.Codes
section
set_option Elab.async false
set_option linter.all false
set_option maxRecDepth 100000
set_option maxHeartbeats 4000000
/-! dicts whose keys are tuples of ints and of such tuples -/
namespace DL
open PySem PySem.Spec PyProof.Rows L2
def rawX (P : Program) (w : World) (q : Addr) (xs : List (NestedKey × Addr × Value)) : Heap → Prop := fun h => (q == sysModules) = false ∧ ∃ o es ep, h.get? q = some o ∧ o.ExactDict ∧ o.data = .dict es ep ∧ es.toList = xs.map (entryOfKey (nestedKind P w)) ∧ (xs.map (·.1)).Nodup
abbrev dX (P : Program) (w : World) (q : Addr) (xs : List (NestedKey × Addr × Value)) : HO := .ext (rawX P w q xs)
mutual
inductive KeyIn (K : PySem.W.Frag) (G : Hp) : NestedKey → V → Prop
  | num (i : Int) : KeyIn K G (.num i) (.int i)
  | tup {a : Addr} {vs : List V} {ks : List NestedKey} : SqT K G a vs → KeysIn K G ks vs → KeyIn K G (.tup ks) (.ref a)
inductive KeysIn (K : PySem.W.Frag) (G : Hp) : List NestedKey → List V → Prop
  | nil : KeysIn K G [] []
  | cons {k : NestedKey} {ks : List NestedKey} {v : V} {vs : List V} : KeyIn K G k v → KeysIn K G ks vs → KeysIn K G (k :: ks) (v :: vs)
end
section
variable {P : Program} {w : World} {K : PySem.W.Frag} {G G' H : Hp} {h : Heap}
mutual
theorem KeyIn.imp (g : ∀ a vs, SqT K G a vs → SqT K G' a vs) : ∀ {k : NestedKey} {v : V}, KeyIn K G k v → KeyIn K G' k v
  | _, _, .num i => .num i
  | _, _, .tup s r => .tup (g _ _ s) (KeysIn.imp g r)
theorem KeysIn.imp (g : ∀ a vs, SqT K G a vs → SqT K G' a vs) : ∀ {ks : List NestedKey} {vs : List V}, KeysIn K G ks vs → KeysIn K G' ks vs
  | _, _, .nil => .nil
  | _, _, .cons h r => .cons (KeyIn.imp g h) (KeysIn.imp g r)
end
mutual
theorem KeyIn.is (hok : HOk P w H h) (KX : K.In h) : ∀ {k : NestedKey} {v : V} {u : Value}, KeyIn K H k v → RelV v u → NestedIs h k u
  | _, _, _, .num i, r => by
    obtain ⟨t, rfl⟩ := r
    exact .int i t
  | _, _, _, .tup s q, r => by
    cases r
    obtain ⟨its, o, n, hv, e1, e2, e3⟩ := sqT_at hok KX s
    exact .tup e1 e2 e3 (KeysIn.is hok KX q hv)
theorem KeysIn.is (hok : HOk P w H h) (KX : K.In h) : ∀ {ks : List NestedKey} {vs : List V} {us : List Value}, KeysIn K H ks vs → Vals vs us → NestedAll h ks us
  | _, _, _, .nil, r => by cases r; exact .nil
  | _, _, _, .cons x y, r => by
    cases r with
    | cons a b => exact .cons (KeyIn.is hok KX x a) (KeysIn.is hok KX y b)
end
end
/-- a dict xs at a; the key k at b -/
structure DGX (P : Program) (w : World) (K : PySem.W.Frag) (H : Hp) (a b : Addr) (k : NestedKey) (xs : List (NestedKey × Addr × Value)) : Prop where
  at_ : H a = some (dX P w a xs)
  all : ∀ x ∈ xs, KeyIn K H x.1 (.ref x.2.1) ∧ x.1.depth ≤ 8
  key : KeyIn K H k (.ref b)
  dep : k.depth ≤ 8
section
variable {X : Cx} {pins : List (Addr × Obj)} {σ : L2.St} {H : Hp} {s : Shared} {a b : Addr} {k : NestedKey} {xs : List (NestedKey × Addr × Value)} {A : Around} {E : Value → Shared → Prop}
theorem DGX.of (I : Inv X pins σ H s) (g : DGX X.prog X.w X.K H a b k xs) : s.heap.DictOfH (nestedKind X.prog X.w) a xs ∧ (a == sysModules) = false ∧ (nestedKind X.prog X.w).is s.heap k b := by
  obtain ⟨⟨hs, o, es, ep, h1, h2, h3, h4, h5⟩, _⟩ := (show ObjOk X.prog X.w H s.heap a (dX X.prog X.w a xs) from I.hok a _ g.at_)
  exact ⟨⟨o, es, ep, h1, h2, h3, h4, fun x hx => ⟨(g.all x hx).1.is I.hok I.kIn rfl, (g.all x hx).2⟩, h5⟩, hs, g.key.is I.hok I.kIn rfl, g.dep⟩
theorem roomX (hu : A.units + 65 < cLine) : (nestedKind X.prog X.w).room A.in1 := by
  show A.in1.units + 8 < cLine
  have : A.in1.units = A.units + 1 := rfl
  omega
theorem dx_get {p : Addr × Value} {v : V} {Q : Value → Shared → Prop} (hu : A.units + 65 < cLine) (I : Inv X pins σ H s) (g : DGX X.prog X.w X.K H a b k xs) (hp : atKey xs k = some p) (rv : RelV v p.2) (h : ∀ w' s', Inv X pins σ H s' → RelV v w' → Q w' s') :
    wpAny (model X.prog X.w) A (getItem (.ref a) (.ref b)) Q E s := by
  obtain ⟨d, hs, hk⟩ := g.of I
  exact wpAny_getItem_heap (roomX (X := X) hu) hk d hp (h _ _ (I.tok _) rv)
theorem dx_nin {Q : Value → Shared → Prop} (hu : A.units + 65 < cLine) (I : Inv X pins σ H s) (g : DGX X.prog X.w X.K H a b k xs) (h : ∀ s', Inv X pins σ H s' → Q (.bool (!(atKey xs k).isSome)) s') :
    wpAny (model X.prog X.w) A (compareOp .NotIn (.ref b) (.ref a)) Q E s := by
  obtain ⟨d, hs, hk⟩ := g.of I
  exact wpAny_notIn_heap (roomX (X := X) hu) hk hs d (h _ (I.tok _))
theorem atKey_storedH (xs : List (NestedKey × Addr × Value)) (k : NestedKey) (a : Addr) (v : Value) : ∃ b, atKey (storedH xs k a v) k = some (b, v) := by
  cases h : atKey xs k with
  | none =>
    rw [storedH_new h]
    refine ⟨a, ?_⟩
    unfold atKey at h ⊢
    rw [Option.map_eq_none_iff] at h
    rw [List.find?_append, h]
    simp
  | some p =>
    rw [storedH_old h]
    induction xs with
    | nil => cases h
    | cons x xs ih =>
      by_cases e : x.1 = k
      · refine ⟨x.2.1, ?_⟩
        simp [atKey, putAt, e]
      · have h' : atKey xs k = some p := by simpa [atKey, List.find?_cons, e] using h
        obtain ⟨b, hb⟩ := ih h'
        refine ⟨b, ?_⟩
        simpa [atKey, putAt, List.find?_cons, e] using hb
theorem dx_put {r : Value} {Q : Unit → Shared → Prop} (hu : A.units + 65 < cLine) (I : Inv X pins σ H s) (g : DGX X.prog X.w X.K H a b k xs) (hz : xs.length ≤ sizeLine) (h : ∀ s', Inv X pins σ (upd H a (dX X.prog X.w a (storedH xs k b r))) s' → Q () s') :
    wpAny (model X.prog X.w) A (setItem (.ref a) (.ref b) r) Q E s := by
  obtain ⟨d, hs, hk⟩ := g.of I
  refine wpAny_setItem_heap (hsz := hz) (roomX (X := X) hu) hk d fun h' dd' hsb => h _ ?_
  obtain ⟨q, es, ep, hq, h2, h3, h4, _, h5⟩ := dd'
  refine d_write I (by rw [g.at_]; exact True.intro) hsb ⟨q, hq⟩ ⟨⟨hs, q, es, ep, hq, h2, h3, h4, h5⟩, ⟨q, hq⟩, ?_⟩
  rintro g1 g2 ⟨hs', o, es, ep, w1, w2⟩ ke
  exact ⟨hs', o, es, ep, ke _ w1, w2⟩
theorem dx_typeIs (I : Inv X pins σ H s) (g : DGX X.prog X.w X.K H a b k xs) : s.TypeIs (.ref a) "dict" := (g.of I).1.typeIs
end
def tGetX (P : Program) (w : World) (K : PySem.W.Frag) (td ty : TE) : TE := fun σ H Q => td σ H fun x H1 => ty σ H1 fun y H2 => ∃ a b k xs p v, x = .ref a ∧ y = .ref b ∧ DGX P w K H2 a b k xs ∧ atKey xs k = some p ∧ RelV v p.2 ∧ Q v H2
def tNinX (P : Program) (w : World) (K : PySem.W.Frag) (ty td : TE) : TE := fun σ H Q => ty σ H fun y H1 => td σ H1 fun x H2 => ∃ a b k xs, x = .ref a ∧ y = .ref b ∧ DGX P w K H2 a b k xs ∧ Q (.bl (!(atKey xs k).isSome)) H2
def sPutX (P : Program) (w : World) (K : PySem.W.Frag) (td ty tv : TE) : TS := fun D σ H => tv σ H fun v H1 => td σ H1 fun x H2 => ty σ H2 fun y H3 => ∃ a b k xs, x = .ref a ∧ y = .ref b ∧ DGX P w K H3 a b k xs ∧ xs.length ≤ sizeLine ∧
  ∀ r, RelV v r → D.nx σ (upd H3 a (dX P w a (storedH xs k b r)))
section
variable {X : Cx} {o i e value : Expr} {pos pos' tpos : Pos} {td ty tv : TE}
theorem pe_getX (hu : X.A.units + 65 < cLine) (ho : PE X o td) (hi : PE X i ty) (hs : NoSl i) : PE X (.Subscript o i pos) (tGetX X.prog X.w X.K td ty) := by
  refine ⟨fun pins s σ H Q I h => ?_⟩
  refine subD_of PySem.F.slot_dict_getitem.lookup hs (thn (ho.run pins s σ H _ I h) fun u s1 ⟨x, H1, I1, rx, q1⟩ => thn (hi.run pins s1 σ H1 _ I1 q1) fun iv s2 ⟨y, H2, I2, ry, a, b, k, xs, p, v, ex, ey, g, hp, rv, q2⟩ => ?_)
  subst ex ey
  obtain rfl : u = Value.ref a := rx
  obtain rfl : iv = Value.ref b := ry
  exact ⟨dx_typeIs I2 g, dx_get hu I2 g hp rv fun w' s3 I3 rw' => ⟨v, H2, I3, rw', q2⟩⟩
theorem pc_ninX (hu : X.A.units + 65 < cLine) (hi : PE X i ty) (ho : PE X o td) : PC X .NotIn i o (tNinX X.prog X.w X.K ty td) := by
  refine ⟨fun pins s σ H Q I h => ?_⟩
  refine thn (hi.run pins s σ H _ I h) fun iv s1 ⟨y, H1, I1, ry, q1⟩ => thn (ho.run pins s1 σ H1 _ I1 q1) fun u s2 ⟨x, H2, I2, rx, a, b, k, xs, ex, ey, g, q2⟩ => ?_
  subst ex ey
  obtain rfl : u = Value.ref a := rx
  obtain rfl : iv = Value.ref b := ry
  exact dx_nin hu I2 g fun s3 I3 => ⟨.bl (!(atKey xs k).isSome), H2, I3, rfl, q2⟩
theorem ps_putX (hu : X.A.units + 65 < cLine) (ho : PE X o td) (hi : PE X i ty) (hv : PE X value tv) (hs : swapsWith value (some (.Subscript o i pos')) pos.line X.env = pure false) :
    PS X (.Assign [.Subscript o i pos'] value pos) (sPutX X.prog X.w X.K td ty tv) := by
  refine ⟨fun pins s σ H D I h => ?_⟩
  refine wpAny_Assign_Subscript (thn (hv.run pins s σ H _ I h) fun r s1 ⟨v, H1, I1, rv, q1⟩ => thn (ho.run pins s1 σ H1 _ I1 q1) fun u s2 ⟨x, H2, I2, rx, q2⟩ => thn (hi.run pins s2 σ H2 _ I2 q2) fun iv s3 ⟨y, H3, I3, ry, a, b, k, xs, ex, ey, g, hz, q3⟩ => ?_) hs
  subst ex ey
  obtain rfl : u = Value.ref a := rx
  obtain rfl : iv = Value.ref b := ry
  exact dx_put hu I3 g hz fun s4 I4 => ⟨σ, _, I4, q3 r rv⟩
def tNewX (P : Program) (w : World) : TE := fun _ H Q => ∀ p, H p = none → Q (.ref p) (upd H p (dX P w p []))
theorem pe_newX : PE X (.Dict [] [] pos) (tNewX X.prog X.w) := ⟨fun pins s σ H Q I h =>
  wpAny_Dict_empty ⟨.ref s.heap.objs.size, _, I.laid (a := s.heap.objs.size) (o := dX X.prog X.w s.heap.objs.size []) (t' := s.toks) (fun _ _ q => Heap.get?_push_of_some _ q) (Nat.le_refl _)
    ⟨⟨beq_eq_false_iff_ne.mpr (Ne.symm (Nat.ne_of_lt I.big)), _, #[], 0, Heap.get?_push_size _ rfl, ⟨rfl, rfl, rfl⟩, rfl, rfl, List.nodup_nil⟩, ⟨_, Heap.get?_push_size _ rfl⟩, fun g1 g2 ⟨hs', o, es, ep, w1, w2⟩ ke => ⟨hs', o, es, ep, ke _ w1, w2⟩⟩, rfl, h _ (I.hok.fresh (Nat.le_refl _))⟩⟩
end
end DL
end
section
set_option Elab.async false
set_option linter.all false
set_option maxRecDepth 100000
/-! The data layer: defs of the text as functions over plain data. -/
namespace DL
open PySem PySem.Spec PyProof.Rows L2
abbrev St := L2.St

/-- plain data -/
inductive D where
  | non | bl (b : Bool) | int (i : Int) | str (x : Str)
  | tup (xs : List D) | lst (xs : List D)
  /-- the script -/
  | scr (ns : List Int)
  | dic (kvs : List (Int × D))
  | ref (a : Addr) | memo (k : Nat) (d : D) | obj (c : Nat) (fs : List (Str × D))

/-- objects that a body may change -/
def loose : HO → Bool
  | .lst _ => true
  | .dK _ => true
  | .dT _ => true
  | _ => false
def isExt : HO → Bool
  | .ext _ => true
  | _ => false

/-- objects that are only frozen by their owner -/
def kp : HO → Bool
  | .tup _ => false
  | .ext _ => false
  | _ => true
theorem kp_ext {o : HO} (h : kp o = true) : isExt o = false := by cases o <;> first | rfl | cases h
theorem kp_loose {o : HO} (h : loose o = true) : kp o = true := by cases o <;> first | rfl | cases h
/-- what a kind of memo may hold: keys and their values -/
structure MSp where
  sp : NestedKey → Option D
  cap : ∀ l : List NestedKey, l.Nodup → (∀ k ∈ l, (sp k).isSome = true) → l.length ≤ 16000000
  dep : ∀ k, (sp k).isSome = true → k.depth ≤ 8
/-- a tuple of the frozen part -/
structure TupG (G : Hp) (a : Addr) (xs : List V) : Prop where of ::
  eq : G a = some (.tup xs)
theorem TupG.sq {K : PySem.W.Frag} {G : Hp} {a : Addr} {xs : List V} (h : TupG G a xs) : SqT K G a xs := .of h.eq
/-- a simple value: an int, a tuple of ints -/
inductive SHas (K : PySem.W.Frag) (G : Hp) : V → D → Prop
  | int (i : Int) : SHas K G (.int i) (.int i)
  | tup {a : Addr} {ns : List Int} : TupG G a (ns.map V.int) → SHas K G (.ref a) (.tup (ns.map D.int))
theorem SHas.imp {K : PySem.W.Frag} {G G' : Hp} (g : ∀ a vs, TupG G a vs → TupG G' a vs) {v : V} {d : D} (h : SHas K G v d) : SHas K G' v d := by
  cases h with
  | int i => exact .int i
  | tup s => exact .tup (g _ _ s)
/-- the mark of a memo in the frozen heap: its kind, its ghost -/
def tagO (k : Nat) (gl : List (List Int)) : HO := .frz ⟨.none, none, .fields #[], #[]⟩ (.dT (([.inl (k : Int)], .non) :: gl.map fun w => (w.map Sum.inl, .non)))
def isTag : HO → Bool
  | .frz _ (.dT _) => true
  | _ => false
theorem inl_inj : ∀ {a b : List Int}, a.map (Sum.inl : Int → Key) = b.map Sum.inl → a = b
  | [], [], _ => rfl
  | [], _ :: _, h => by cases h
  | _ :: _, [], h => by cases h
  | x :: xs, y :: ys, h => by
    rw [List.map_cons, List.map_cons] at h
    injection h with h1 h2
    injection h1 with h1
    rw [h1, inl_inj h2]
theorem gl_inj : ∀ {a b : List (List Int)}, a.map (fun w => ((w.map Sum.inl : List Key), V.non)) = b.map (fun w => (w.map Sum.inl, V.non)) → a = b
  | [], [], _ => rfl
  | [], _ :: _, h => by cases h
  | _ :: _, [], h => by cases h
  | x :: xs, y :: ys, h => by
    rw [List.map_cons, List.map_cons] at h
    injection h with h1 h2
    injection h1 with h1 _
    rw [inl_inj h1, gl_inj h2]
theorem tag_inj {k j : Nat} {a b : List (List Int)} (h : tagO k a = tagO j b) : k = j ∧ a = b := by
  unfold tagO at h
  injection h with _ h
  injection h with h
  injection h with h1 h2
  injection h1 with h1 _
  injection h1 with h1 _
  injection h1 with h1
  exact ⟨Int.ofNat_inj.mp h1, gl_inj h2⟩
/-- a ghost as data -/
def ghD (gl : List (List Int)) : D := .tup (gl.map fun w => .tup (w.map D.int))
theorem ints_inj : ∀ {a b : List Int}, a.map D.int = b.map D.int → a = b
  | [], [], _ => rfl
  | [], _ :: _, h => by cases h
  | _ :: _, [], h => by cases h
  | x :: xs, y :: ys, h => by
    rw [List.map_cons, List.map_cons] at h
    injection h with h1 h2
    injection h1 with h1
    rw [h1, ints_inj h2]
theorem gh_inj {a b : List (List Int)} (h : ghD a = ghD b) : a = b := by
  injection h with h
  induction a generalizing b with
  | nil =>
    cases b with
    | nil => rfl
    | cons => cases h
  | cons x xs ih =>
    cases b with
    | nil => cases h
    | cons y ys =>
      rw [List.map_cons, List.map_cons] at h
      injection h with h1 h2
      injection h1 with h1
      rw [ints_inj h1, ih h2]
/-- what a program's facts are, and what its memo objects mean -/
structure Cf where
  K : PySem.W.Frag
  P : Program
  w : World
  xa : Nat → Addr
  mo : Nat → List (List Int) → Option MSp
def Cf.mr (C : Cf) (G : Hp) (q : Addr) (k : Nat) (d : D) : Prop := (100 ≤ k ∧ q = C.xa k) ∨ (k < 100 ∧ ∃ gl, d = ghD gl ∧ G q = some (tagO k gl))
theorem Cf.mono (C : Cf) : ∀ G G' q k d, (∀ p o, G p = some o → loose o = false → isExt o = false ∨ p = q → G' p = some o) → C.mr G q k d → C.mr G' q k d := fun G G' q k d h m => by
  rcases m with m | ⟨m, gl, e, h2⟩
  · exact .inl m
  · exact .inr ⟨m, gl, e, h _ _ h2 rfl (.inl rfl)⟩
/-- the memo at q holds what it may -/
def MV (C : Cf) (G H : Hp) (q : Addr) (k : Nat) (gl : List (List Int)) : Prop := ∃ S xs, C.mo k gl = some S ∧ H q = some (dX C.P C.w q xs) ∧ (xs.map (·.1)).Nodup ∧
  ∀ x ∈ xs, KeyIn C.K G x.1 (.ref x.2.1) ∧ ∃ v d, RelV v x.2.2 ∧ S.sp x.1 = some d ∧ SHas C.K G v d
theorem MV.imp {C : Cf} {G G' H H' : Hp} {q : Addr} {k : Nat} {gl : List (List Int)} (g0 : ∀ a vs, SqT C.K G a vs → SqT C.K G' a vs) (g : ∀ a vs, TupG G a vs → TupG G' a vs) (h : ∀ xs, H q = some (dX C.P C.w q xs) → H' q = some (dX C.P C.w q xs)) (m : MV C G H q k gl) : MV C G' H' q k gl := by
  obtain ⟨S, xs, h1, h2, h3, h4⟩ := m
  refine ⟨S, xs, h1, h _ h2, h3, fun x hx => ?_⟩
  obtain ⟨a, v, d, b, c, e⟩ := h4 x hx
  exact ⟨a.imp g0, v, d, b, c, e.imp g⟩
/-- the frozen part of a heap -/
structure Sub (C : Cf) (G H : Hp) : Prop where
  sub : ∀ p o, G p = some o → isTag o = false → H p = some o
  tag : ∀ p o, G p = some o → isTag o = true → ∃ k gl, o = tagO k gl ∧ MV C G H p k gl
theorem Sub.lst {C : Cf} {G H : Hp} (s : Sub C G H) {p : Addr} {vs : List V} (h : G p = some (.lst vs)) : H p = some (.lst vs) := s.sub _ _ h rfl
/-- growing: all but the memos stays, and these keep their meaning -/
structure Grow (C : Cf) (G G' : Hp) : Prop where
  keep : ∀ p o, G p = some o → isExt o = false → G' p = some o
  stay : ∀ p, G p ≠ none → G' p ≠ none
  mem : ∀ q k d, C.mr G q k d → C.mr G' q k d
theorem Grow.refl {C : Cf} {G : Hp} : Grow C G G := ⟨fun _ _ e _ => e, fun _ e => e, fun _ _ _ e => e⟩
theorem Grow.trans {C : Cf} {G G1 G2 : Hp} (a : Grow C G G1) (b : Grow C G1 G2) : Grow C G G2 :=
  ⟨fun p o e n => b.keep p o (a.keep p o e n) n, fun p e => b.stay p (a.stay p e), fun q k d e => b.mem q k d (a.mem q k d e)⟩
theorem Grow.new {C : Cf} {G : Hp} {p : Addr} {o : HO} (n : G p = none) : Grow C G (upd G p o) := by
  have s : ∀ b x, G b = some x → upd G p o b = some x := fun b x e => by rw [upd_ne (ne_of_none e n)]; exact e
  exact ⟨fun b x e _ => s b x e, fun b e => by
    cases h : G b with
    | none => exact absurd h e
    | some x => rw [s b x h]; exact (fun z => nomatch z), fun q k d h => C.mono G _ q k d (fun p o e _ _ => s p o e) h⟩
theorem Sub.rd {C : Cf} {G H : Hp} (s : Sub C G H) {a : Addr} {u : HO} (h1 : isTag u = false) (h2 : ∀ o, isTag (.frz o u) = false) (h : Rd G a u) : Rd H a u := by
  rcases h with h | ⟨o, h⟩
  · exact .inl (s.sub _ _ h h1)
  · exact .inr ⟨o, s.sub _ _ h (h2 o)⟩
theorem Sub.sqT {C : Cf} {G H : Hp} (s : Sub C G H) {a : Addr} {xs : List V} (h : TupG G a xs) : SqT C.K H a xs := .of (s.sub _ _ h.eq rfl)
theorem Sub.sqT' {C : Cf} {G H : Hp} (s : Sub C G H) {a : Addr} {xs : List V} (h : SqT C.K G a xs) : SqT C.K H a xs := by
  rcases h with h | h
  · exact .inl (s.rd rfl (fun _ => rfl) h)
  · exact .inr h
theorem Sub.sqL {C : Cf} {G H : Hp} (s : Sub C G H) {a : Addr} {xs : List V} (h : SqL C.K G a xs) : SqL C.K H a xs := by
  rcases h with h | h
  · exact .inl (s.rd rfl (fun _ => rfl) h)
  · exact .inr h
theorem Sub.grow {C : Cf} {G H : Hp} (s : Sub C G H) : Sub C G H := s
theorem Grow.rd_lst {C : Cf} {G G' : Hp} (g : Grow C G G') {a : Addr} {xs : List V} (h : Rd G a (.lst xs)) : Rd G' a (.lst xs) := by
  rcases h with h | ⟨o, h⟩
  · exact .inl (g.keep _ _ h rfl)
  · exact .inr ⟨o, g.keep _ _ h rfl⟩
theorem Grow.rd_tup {C : Cf} {G G' : Hp} (g : Grow C G G') {a : Addr} {xs : List V} (h : Rd G a (.tup xs)) : Rd G' a (.tup xs) := by
  rcases h with h | ⟨o, h⟩
  · exact .inl (g.keep _ _ h rfl)
  · exact .inr ⟨o, g.keep _ _ h rfl⟩
theorem Grow.sqL {C : Cf} {G G' : Hp} (g : Grow C G G') {a : Addr} {xs : List V} (h : SqL C.K G a xs) : SqL C.K G' a xs := by
  rcases h with h | h
  · exact .inl (g.rd_lst h)
  · exact .inr h
theorem Grow.tupG {C : Cf} {G G' : Hp} (g : Grow C G G') {a : Addr} {xs : List V} (h : TupG G a xs) : TupG G' a xs := ⟨g.keep _ _ h.eq rfl⟩
theorem Grow.sqT {C : Cf} {G G' : Hp} (g : Grow C G G') {a : Addr} {xs : List V} (h : SqT C.K G a xs) : SqT C.K G' a xs := by
  rcases h with h | h
  · exact .inl (g.rd_tup h)
  · exact .inr h

/-! ### a value stands for data -/
mutual
inductive Has (C : Cf) (G : Hp) : V → D → Prop
  | non : Has C G .non .non
  | bl (b : Bool) : Has C G (.bl b) (.bl b)
  | int (i : Int) : Has C G (.int i) (.int i)
  | str (x : Str) : Has C G (.str x) (.str x)
  | tup {a : Addr} {vs : List V} {ds : List D} : TupG G a vs → HasAll C G vs ds → Has C G (.ref a) (.tup ds)
  | lst {a : Addr} {vs : List V} {ds : List D} : G a = some (.lst vs) → HasAll C G vs ds → Has C G (.ref a) (.lst ds)
  | scr {a : Addr} {ns : List Int} : SqL C.K G a (ns.map V.int) → Has C G (.ref a) (.scr ns)
  | dic {a : Addr} {ks : List (Key × V)} {kvs : List (Int × D)} : G a = some (.dK ks) → HasKv C G ks kvs → Has C G (.ref a) (.dic kvs)
  | ref (a : Addr) : Has C G (.ref a) (.ref a)
  | memo {a : Addr} {k : Nat} {d : D} : C.mr G a k d → Has C G (.ref a) (.memo k d)
  | obj {a dx : Addr} {c : Nat} {fv : List (Str × V)} {fs : List (Str × D)} : G a = some (.ins (C.xa c) dx fv) → HasFs C G fv fs → Has C G (.ref a) (.obj c fs)
inductive HasAll (C : Cf) (G : Hp) : List V → List D → Prop
  | nil : HasAll C G [] []
  | cons {v : V} {vs : List V} {d : D} {ds : List D} : Has C G v d → HasAll C G vs ds → HasAll C G (v :: vs) (d :: ds)
inductive HasKv (C : Cf) (G : Hp) : List (Key × V) → List (Int × D) → Prop
  | nil : HasKv C G [] []
  | cons {i : Int} {v : V} {vs : List (Key × V)} {d : D} {ds : List (Int × D)} : Has C G v d → HasKv C G vs ds → HasKv C G ((.inl i, v) :: vs) ((i, d) :: ds)
inductive HasFs (C : Cf) (G : Hp) : List (Str × V) → List (Str × D) → Prop
  | nil : HasFs C G [] []
  | cons {f : Str} {v : V} {vs : List (Str × V)} {d : D} {ds : List (Str × D)} : Has C G v d → HasFs C G vs ds → HasFs C G ((f, v) :: vs) ((f, d) :: ds)
end

section
variable {C : Cf} {G G' H : Hp}
mutual
theorem Has.mono (g : Grow C G G') : ∀ {v : V} {d : D}, Has C G v d → Has C G' v d
  | _, _, .non => .non
  | _, _, .bl b => .bl b
  | _, _, .int i => .int i
  | _, _, .str x => .str x
  | _, _, .tup h r => .tup (g.tupG h) (HasAll.mono g r)
  | _, _, .lst h r => .lst (g.keep _ _ h rfl) (HasAll.mono g r)
  | _, _, .scr h => .scr (g.sqL h)
  | _, _, .dic h r => .dic (g.keep _ _ h rfl) (HasKv.mono g r)
  | _, _, .ref a => .ref a
  | _, _, .memo h => .memo (g.mem _ _ _ h)
  | _, _, .obj h r => .obj (g.keep _ _ h rfl) (HasFs.mono g r)
theorem HasAll.mono (g : Grow C G G') : ∀ {vs : List V} {ds : List D}, HasAll C G vs ds → HasAll C G' vs ds
  | _, _, .nil => .nil
  | _, _, .cons h r => .cons (Has.mono g h) (HasAll.mono g r)
theorem HasKv.mono (g : Grow C G G') : ∀ {vs : List (Key × V)} {ds : List (Int × D)}, HasKv C G vs ds → HasKv C G' vs ds
  | _, _, .nil => .nil
  | _, _, .cons h r => .cons (Has.mono g h) (HasKv.mono g r)
theorem HasFs.mono (g : Grow C G G') : ∀ {vs : List (Str × V)} {ds : List (Str × D)}, HasFs C G vs ds → HasFs C G' vs ds
  | _, _, .nil => .nil
  | _, _, .cons h r => .cons (Has.mono g h) (HasFs.mono g r)
end
theorem HasAll.length : ∀ {vs : List V} {ds : List D}, HasAll C G vs ds → vs.length = ds.length
  | _, _, .nil => rfl
  | _, _, .cons _ r => by rw [List.length_cons, List.length_cons, HasAll.length r]
theorem HasAll.get : ∀ {vs : List V} {ds : List D} {i : Nat} {d : D}, HasAll C G vs ds → ds[i]? = some d → ∃ v, vs[i]? = some v ∧ Has C G v d
  | _, _, _, _, .nil, e => by simp at e
  | _, _, 0, _, .cons h _, e => by simp at e; subst e; exact ⟨_, rfl, h⟩
  | _, _, i + 1, _, .cons _ r, e => by
    obtain ⟨v, h1, h2⟩ := HasAll.get (i := i) r (by simpa using e)
    exact ⟨v, by simpa using h1, h2⟩
theorem HasAll.getV : ∀ {vs : List V} {ds : List D} {i : Nat} {v : V}, HasAll C G vs ds → vs[i]? = some v → ∃ d, ds[i]? = some d ∧ Has C G v d
  | _, _, _, _, .nil, e => by simp at e
  | _, _, 0, _, .cons h _, e => by simp at e; subst e; exact ⟨_, rfl, h⟩
  | _, _, i + 1, _, .cons _ r, e => by
    obtain ⟨v, h1, h2⟩ := HasAll.getV (i := i) r (by simpa using e)
    exact ⟨v, by simpa using h1, h2⟩
theorem HasAll.append : ∀ {vs ws : List V} {ds es : List D}, HasAll C G vs ds → HasAll C G ws es → HasAll C G (vs ++ ws) (ds ++ es)
  | _, _, _, _, .nil, s => s
  | _, _, _, _, .cons h r, s => .cons h (HasAll.append r s)
theorem HasAll.take : ∀ {vs : List V} {ds : List D} (n : Nat), HasAll C G vs ds → HasAll C G (vs.take n) (ds.take n)
  | _, _, 0, _ => .nil
  | _, _, _ + 1, .nil => .nil
  | _, _, n + 1, .cons r t => .cons r (HasAll.take n t)
theorem HasAll.drop : ∀ {vs : List V} {ds : List D} (n : Nat), HasAll C G vs ds → HasAll C G (vs.drop n) (ds.drop n)
  | _, _, 0, r => r
  | _, _, _ + 1, .nil => .nil
  | _, _, n + 1, .cons _ t => HasAll.drop n t
theorem HasAll.reverse : ∀ {vs : List V} {ds : List D}, HasAll C G vs ds → HasAll C G vs.reverse ds.reverse
  | _, _, .nil => .nil
  | _, _, .cons h r => by rw [List.reverse_cons, List.reverse_cons]; exact (HasAll.reverse r).append (.cons h .nil)
theorem HasAll.eraseIdx : ∀ {vs : List V} {ds : List D} (i : Nat), HasAll C G vs ds → HasAll C G (vs.eraseIdx i) (ds.eraseIdx i)
  | _, _, _, .nil => .nil
  | _, _, 0, .cons _ t => t
  | _, _, i + 1, .cons q t => .cons q (HasAll.eraseIdx i t)
theorem HasAll.set {x : V} {u : D} (r : Has C G x u) : ∀ {vs : List V} {ds : List D} (i : Nat), HasAll C G vs ds → HasAll C G (vs.set i x) (ds.set i u)
  | _, _, _, .nil => .nil
  | _, _, 0, .cons _ t => .cons r t
  | _, _, i + 1, .cons q t => .cons q (HasAll.set r i t)
theorem HasAll.rep {vs : List V} {ds : List D} (h : HasAll C G vs ds) : ∀ k : Nat, HasAll C G (List.replicate k vs).flatten (List.replicate k ds).flatten
  | 0 => .nil
  | k + 1 => by rw [List.replicate_succ, List.replicate_succ, List.flatten_cons, List.flatten_cons]; exact h.append (HasAll.rep h k)
theorem HasAll.repl {v : V} {d : D} (h : Has C G v d) : ∀ k : Nat, HasAll C G (List.replicate k v) (List.replicate k d)
  | 0 => .nil
  | k + 1 => .cons h (HasAll.repl h k)
theorem HasAll.one {vs : List V} {d : D} : HasAll C G vs [d] → ∃ v, vs = [v] ∧ Has C G v d
  | .cons h .nil => ⟨_, rfl, h⟩
theorem HasAll.two {vs : List V} {d e : D} : HasAll C G vs [d, e] → ∃ v u, vs = [v, u] ∧ Has C G v d ∧ Has C G u e
  | .cons h (.cons h' .nil) => ⟨_, _, rfl, h, h'⟩
theorem HasAll.three {vs : List V} {d e f : D} : HasAll C G vs [d, e, f] → ∃ v u w, vs = [v, u, w] ∧ Has C G v d ∧ Has C G u e ∧ Has C G w f
  | .cons h (.cons h' (.cons h'' .nil)) => ⟨_, _, _, rfl, h, h', h''⟩
theorem HasAll.ints : ∀ {vs : List V} {ns : List Int}, HasAll C G vs (ns.map D.int) → vs = ns.map V.int
  | _, [], .nil => rfl
  | _, n :: ns, .cons h r => by
    cases h
    rw [List.map_cons, HasAll.ints r]
theorem HasAll.of_ints : ∀ {ns : List Int}, HasAll C G (ns.map V.int) (ns.map D.int)
  | [] => .nil
  | n :: ns => .cons (.int n) HasAll.of_ints
theorem Sub.free {p : Addr} (s : Sub C G H) (n : H p = none) : G p = none := by
  cases e : G p with
  | none => rfl
  | some o =>
    cases t : isTag o with
    | false => rw [s.sub p o e t] at n; cases n
    | true =>
      obtain ⟨k, gl, _, S, xs, _, h2, _⟩ := s.tag p o e t
      rw [h2] at n; cases n
/-- a frozen object more -/
theorem Sub.add {p : Addr} {o : HO} {H' : Hp} (s : Sub C G H) (n : G p = none) (hp : H' p = some o) (ht : isTag o = false) (k : ∀ q x, G q ≠ none → H q = some x → H' q = some x) : Sub C (upd G p o) H' where
  sub := fun b x e t => by
    by_cases h : b = p
    · subst h; rw [upd_same] at e; cases e; exact hp
    · rw [upd_ne h] at e; exact k _ _ (by rw [e]; exact fun z => nomatch z) (s.sub _ _ e t)
  tag := fun b x e t => by
    by_cases h : b = p
    · subst h; rw [upd_same] at e; cases e; rw [ht] at t; cases t
    · rw [upd_ne h] at e
      obtain ⟨j, gl, e1, m⟩ := s.tag b x e t
      exact ⟨j, gl, e1, m.imp (fun a vs q => (Grow.new (C := C) n).sqT q) (fun a vs q => (Grow.new (C := C) n).tupG q) fun xs hx => k _ _ (by rw [e]; exact fun z => nomatch z) hx⟩
theorem Sub.keep {H' : Hp} (s : Sub C G H) (k : ∀ q x, G q ≠ none → H q = some x → H' q = some x) : Sub C G H' where
  sub := fun b x e t => k _ _ (by rw [e]; exact fun z => nomatch z) (s.sub _ _ e t)
  tag := fun b x e t => by
    obtain ⟨j, gl, e1, m⟩ := s.tag b x e t
    exact ⟨j, gl, e1, m.imp (fun _ _ q => q) (fun _ _ q => q) fun xs hx => k _ _ (by rw [e]; exact fun z => nomatch z) hx⟩
theorem Sub.new2 {p : Addr} {o : HO} (s : Sub C G H) (n : H p = none) (ht : isTag o = false := by rfl) : Sub C (upd G p o) (upd H p o) :=
  s.add (s.free n) upd_same ht fun q x _ e => by rw [upd_ne (ne_of_none e n)]; exact e
theorem Grow.free {p : Addr} (g : Grow C G H) (n : H p = none) : G p = none := by
  cases e : G p with
  | none => rfl
  | some o => exact absurd n (g.stay p (by rw [e]; exact fun z => nomatch z))
end

/-! ### the abstract state of a body: one place a slot -/
inductive Slot where
  | no
  | val (d : D)
  /-- a list of its own -/
  | own (ds : List D)
  /-- a dict of its own, keys ints; keys tuples of ints -/
  | dK (kvs : List (Int × D)) | dT (kvs : List (List Int × D))
abbrev AS := List Slot

def kInt (ks : List Int) : List Key := ks.map Sum.inl
inductive HasTv (C : Cf) (G : Hp) : List (List Key × V) → List (List Int × D) → Prop
  | nil : HasTv C G [] []
  | cons {i : List Int} {v : V} {vs : List (List Key × V)} {d : D} {ds : List (List Int × D)} : Has C G v d → HasTv C G vs ds → HasTv C G ((kInt i, v) :: vs) ((i, d) :: ds)
theorem HasTv.mono {C : Cf} {G G' : Hp} (g : Grow C G G') : ∀ {vs : List (List Key × V)} {ds : List (List Int × D)}, HasTv C G vs ds → HasTv C G' vs ds
  | _, _, .nil => .nil
  | _, _, .cons h r => .cons (h.mono g) (HasTv.mono g r)

/-- what an owned place holds -/
def OwnOk (C : Cf) (G : Hp) : Slot → HO → Prop
  | .own ds, .lst vs => HasAll C G vs ds
  | .dK kvs, .dK ks => HasKv C G ks kvs
  | .dT kvs, .dT ks => HasTv C G ks kvs
  | _, _ => False
theorem OwnOk.mono {C : Cf} {G G' : Hp} {s : Slot} {o : HO} (g : Grow C G G') (h : OwnOk C G s o) : OwnOk C G' s o := by
  cases s <;> cases o <;> first
    | exact h.elim
    | exact HasAll.mono g h
    | exact HasKv.mono g h
    | exact HasTv.mono g h
theorem OwnOk.loose {C : Cf} {G : Hp} {s : Slot} {o : HO} (h : OwnOk C G s o) : loose o = true ∧ isExt o = false := by
  cases s <;> cases o <;> first
    | exact h.elim
    | exact ⟨rfl, rfl⟩
def isOwn : Slot → Bool
  | .own _ => true
  | .dK _ => true
  | .dT _ => true
  | _ => false
def SlotOk (C : Cf) (B H G : Hp) (s : Slot) (x : Option (Option V)) : Prop := match s with
  | .no => True
  | .val d => ∃ v, x = some (some v) ∧ Has C G v d
  | s => ∃ p o, x = some (some (.ref p)) ∧ H p = some o ∧ OwnOk C G s o ∧ G p = none ∧ B p = none
theorem SlotOk.own {C : Cf} {B H G : Hp} {s : Slot} {x : Option (Option V)} (hs : isOwn s = true) : SlotOk C B H G s x ↔ ∃ p o, x = some (some (.ref p)) ∧ H p = some o ∧ OwnOk C G s o ∧ G p = none ∧ B p = none := by
  cases s <;> first
    | exact Iff.rfl
    | cases hs

structure Rel (C : Cf) (B G0 : Hp) (a : AS) (σ : DL.St) (H G : Hp) : Prop where
  gg : Grow C G0 G
  gh : Sub C G H
  bh : Grow C B H
  new : ∀ p o, B p = some o → kp o = true → G0 p = none → G p = none
  len : a.length = σ.length
  slot : ∀ (i : Nat) (s : Slot), a[i]? = some s → SlotOk C B H G s σ[i]?
  sep : ∀ (i j : Nat) (s t : Slot) (p : Addr), a[i]? = some s → a[j]? = some t → isOwn s = true → isOwn t = true → σ[i]? = some (some (.ref p)) → σ[j]? = some (some (.ref p)) → i = j
end DL
namespace DL
open PySem PySem.Spec PyProof.Rows L2
section
variable {C : Cf} {B G0 H G G' : Hp} {a : AS} {σ : DL.St}
theorem Rel.i_lt (r : Rel C B G0 a σ H G) {i : Nat} {s : Slot} (h : a[i]? = some s) : i < σ.length := by
  rw [← r.len]; exact (List.getElem?_eq_some_iff.mp h).1
theorem SlotOk.mono {H' : Hp} {s : Slot} {x : Option (Option V)} (g : Grow C G G') (hn : ∀ p o, H p = some o → loose o = true → B p = none → G p = none → H' p = some o ∧ G' p = none) (h : SlotOk C B H G s x) : SlotOk C B H' G' s x := by
  cases s with
  | no => trivial
  | val d => obtain ⟨v, e, q⟩ := h; exact ⟨v, e, q.mono g⟩
  | own ds => obtain ⟨p, o, e, h1, h2, h3, h4⟩ := h; obtain ⟨q1, q2⟩ := hn p o h1 h2.loose.1 h4 h3; exact ⟨p, o, e, q1, h2.mono g, q2, h4⟩
  | dK ds => obtain ⟨p, o, e, h1, h2, h3, h4⟩ := h; obtain ⟨q1, q2⟩ := hn p o h1 h2.loose.1 h4 h3; exact ⟨p, o, e, q1, h2.mono g, q2, h4⟩
  | dT ds => obtain ⟨p, o, e, h1, h2, h3, h4⟩ := h; obtain ⟨q1, q2⟩ := hn p o h1 h2.loose.1 h4 h3; exact ⟨p, o, e, q1, h2.mono g, q2, h4⟩
/-- what a call (or a new frozen object) leaves -/
structure Ext (C : Cf) (G H G' H' : Hp) : Prop where
  gg : Grow C G G'
  gh : Sub C G' H'
  hh : Grow C H H'
  new : ∀ p o, H p = some o → kp o = true → G p = none → G' p = none
theorem Rel.ext {H' : Hp} (r : Rel C B G0 a σ H G) (e : Ext C G H G' H') : Rel C B G0 a σ H' G' where
  gg := r.gg.trans e.gg
  gh := e.gh
  bh := r.bh.trans e.hh
  new := fun p o h1 hk h2 => e.new p o (r.bh.keep p o h1 (kp_ext hk)) hk (r.new p o h1 hk h2)
  len := r.len
  slot := fun i s h => (r.slot i s h).mono e.gg fun p o h1 h2 h3 h4 => ⟨e.hh.keep p o h1 (by cases o <;> first | rfl | cases h2), e.new p o h1 (kp_loose h2) h4⟩
  sep := r.sep
theorem Ext.refl (s : Sub C G H) : Ext C G H G H := ⟨.refl, s, .refl, fun _ _ _ _ h => h⟩
theorem Ext.alloc {p : Addr} {o : HO} (s : Sub C G H) (n : H p = none) (ht : isTag o = false := by rfl) : Ext C G H (upd G p o) (upd H p o) :=
  ⟨.new (s.free n), s.new2 n ht, .new n, fun q x h1 _ h2 => by
    by_cases e : q = p
    · subst e; rw [n] at h1; cases h1
    · rw [upd_ne e]; exact h2⟩
theorem Ext.trans {G1 H1 G2 H2 : Hp} (a : Ext C G H G1 H1) (b : Ext C G1 H1 G2 H2) : Ext C G H G2 H2 :=
  ⟨a.gg.trans b.gg, b.gh, a.hh.trans b.hh, fun p o h1 hk h2 => b.new p o (a.hh.keep p o h1 (kp_ext hk)) hk (a.new p o h1 hk h2)⟩
theorem Rel.alloc {p : Addr} {o : HO} (r : Rel C B G0 a σ H G) (n : H p = none) (ht : isTag o = false := by rfl) : Rel C B G0 a σ (upd H p o) (upd G p o) := r.ext (.alloc r.gh n ht)
/-- a new object that is not frozen -/
theorem Ext.laid {p : Addr} {o : HO} (s : Sub C G H) (n : H p = none) : Ext C G H G (upd H p o) :=
  ⟨.refl, s.keep fun q x _ e => by rw [upd_ne (ne_of_none e n)]; exact e, .new n, fun _ _ _ _ h => h⟩
theorem Grow.write {p : Addr} {o o' : HO} (g : Grow C B H) (n : B p = none) (hp : H p = some o) (hl : loose o = true) : Grow C B (upd H p o') where
  keep := fun q u e h => by
    rw [upd_ne (ne_of_none e n)]; exact g.keep q u e h
  stay := fun q e => by
    by_cases z : q = p
    · subst z; exact absurd n e
    · rw [upd_ne z]; exact g.stay q e
  mem := fun q k d h => C.mono H _ q k d (fun b u e hu _ => by
    have z : b ≠ p := fun z => by subst z; rw [hp] at e; cases e; rw [hl] at hu; cases hu
    rw [upd_ne z]; exact e) (g.mem q k d h)
/-- slot i is set to plain data -/
theorem Rel.setVal {i : Nat} {v : V} {d : D} (r : Rel C B G0 a σ H G) (h : Has C G v d) : Rel C B G0 (a.set i (.val d)) (σ.set i (some v)) H G where
  gg := r.gg
  gh := r.gh
  bh := r.bh
  new := r.new
  len := by rw [List.length_set, List.length_set, r.len]
  slot := fun j s hs => by
    by_cases e : i = j
    · subst e
      have hi : i < a.length := by simpa using (List.getElem?_eq_some_iff.mp hs).1
      rw [List.getElem?_set_self hi] at hs
      cases hs
      exact ⟨v, List.getElem?_set_self (by rw [← r.len]; exact hi), h⟩
    · rw [List.getElem?_set_ne e] at hs ⊢
      exact r.slot j s hs
  sep := fun j k s t p hs ht os ot e1 e2 => by
    have nj : ∀ {m : Nat} {u : Slot}, (a.set i (.val d))[m]? = some u → isOwn u = true → i ≠ m := fun {m u} hu ou e => by
      subst e
      have hi : i < a.length := by simpa using (List.getElem?_eq_some_iff.mp hu).1
      rw [List.getElem?_set_self hi] at hu
      cases hu; cases ou
    have n1 := nj hs os
    have n2 := nj ht ot
    rw [List.getElem?_set_ne n1] at hs e1
    rw [List.getElem?_set_ne n2] at ht e2
    exact r.sep j k s t p hs ht os ot e1 e2
/-- slots may be forgotten -/
theorem Rel.setNo {i : Nat} (r : Rel C B G0 a σ H G) : Rel C B G0 (a.set i .no) σ H G where
  gg := r.gg
  gh := r.gh
  bh := r.bh
  new := r.new
  len := by rw [List.length_set, r.len]
  slot := fun j s hs => by
    by_cases e : i = j
    · subst e
      have hi : i < a.length := by simpa using (List.getElem?_eq_some_iff.mp hs).1
      rw [List.getElem?_set_self hi] at hs
      cases hs; trivial
    · rw [List.getElem?_set_ne e] at hs
      exact r.slot j s hs
  sep := fun j k s t p hs ht os ot e1 e2 => by
    have nj : ∀ {m : Nat} {u : Slot}, (a.set i .no)[m]? = some u → isOwn u = true → i ≠ m := fun {m u} hu ou e => by
      subst e
      have hi : i < a.length := by simpa using (List.getElem?_eq_some_iff.mp hu).1
      rw [List.getElem?_set_self hi] at hu
      cases hu; cases ou
    rw [List.getElem?_set_ne (nj hs os)] at hs
    rw [List.getElem?_set_ne (nj ht ot)] at ht
    exact r.sep j k s t p hs ht os ot e1 e2
theorem Rel.noσ {i : Nat} {x : Option V} (r : Rel C B G0 a σ H G) : Rel C B G0 (a.set i .no) (σ.set i x) H G where
  gg := r.gg
  gh := r.gh
  bh := r.bh
  new := r.new
  len := by rw [List.length_set, List.length_set, r.len]
  slot := fun j s hs => by
    by_cases e : i = j
    · subst e
      have hi : i < a.length := by simpa using (List.getElem?_eq_some_iff.mp hs).1
      rw [List.getElem?_set_self hi] at hs
      cases hs; trivial
    · rw [List.getElem?_set_ne e] at hs ⊢
      exact r.slot j s hs
  sep := fun j k s t p hs ht os ot e1 e2 => by
    have nj : ∀ {m : Nat} {u : Slot}, (a.set i .no)[m]? = some u → isOwn u = true → i ≠ m := fun {m u} hu ou e => by
      subst e
      have hi : i < a.length := by simpa using (List.getElem?_eq_some_iff.mp hu).1
      rw [List.getElem?_set_self hi] at hu
      cases hu; cases ou
    have n1 := nj hs os
    have n2 := nj ht ot
    rw [List.getElem?_set_ne n1] at hs e1
    rw [List.getElem?_set_ne n2] at ht e2
    exact r.sep j k s t p hs ht os ot e1 e2
/-- an address that no slot owns -/
def Lone (a : AS) (σ : DL.St) (p : Addr) : Prop := ∀ (i : Nat) (s : Slot), a[i]? = some s → isOwn s = true → σ[i]? ≠ some (some (.ref p))
theorem Rel.lone {p : Addr} (r : Rel C B G0 a σ H G) (n : H p = none) : Lone a σ p := fun i s hs os e => by
  obtain ⟨q, o, e', h1, _⟩ := (SlotOk.own os).mp (r.slot i s hs)
  rw [e] at e'; cases e'; rw [n] at h1; cases h1
/-- slot i takes the object at p as its own -/
theorem Rel.setOwn {i : Nat} {p : Addr} {o : HO} {s : Slot} (r : Rel C B G0 a σ H G) (hp : H p = some o) (ho : OwnOk C G s o) (hG : G p = none) (hB : B p = none) (l : Lone a σ p) : Rel C B G0 (a.set i s) (σ.set i (some (.ref p))) H G where
  gg := r.gg
  gh := r.gh
  bh := r.bh
  new := r.new
  len := by rw [List.length_set, List.length_set, r.len]
  slot := fun j t hs => by
    by_cases e : i = j
    · subst e
      have hi : i < a.length := by simpa using (List.getElem?_eq_some_iff.mp hs).1
      rw [List.getElem?_set_self hi] at hs
      cases hs
      have q : ∃ p' o', (σ.set i (some (V.ref p)))[i]? = some (some (V.ref p')) ∧ H p' = some o' ∧ OwnOk C G s o' ∧ G p' = none ∧ B p' = none := ⟨p, o, List.getElem?_set_self (by rw [← r.len]; exact hi), hp, ho, hG, hB⟩
      cases s <;> first
        | exact q
        | exact ho.elim
    · rw [List.getElem?_set_ne e] at hs ⊢
      exact r.slot j t hs
  sep := fun j k s' t q hs ht os ot e1 e2 => by
    have hit : ∀ {m : Nat}, i = m → (a.set i s)[m]? = some s' ∨ (a.set i s)[m]? = some t → (σ.set i (some (V.ref p)))[m]? = some (some (V.ref q)) → q = p := fun {m} e h e3 => by
      subst e
      have hi : i < a.length := by
        rcases h with h | h
        · simpa using (List.getElem?_eq_some_iff.mp h).1
        · simpa using (List.getElem?_eq_some_iff.mp h).1
      rw [List.getElem?_set_self (by rw [← r.len]; exact hi)] at e3
      injection e3 with e3; injection e3 with e3; injection e3 with e3
      exact e3.symm
    by_cases c1 : i = j
    · by_cases c2 : i = k
      · rw [← c1, ← c2]
      · have eq := hit c1 (.inl hs) e1
        subst eq
        rw [List.getElem?_set_ne c2] at ht e2
        exact absurd e2 (l k t ht ot)
    · by_cases c2 : i = k
      · have eq := hit c2 (.inr ht) e2
        subst eq
        rw [List.getElem?_set_ne c1] at hs e1
        exact absurd e1 (l j s' hs os)
      · rw [List.getElem?_set_ne c1] at hs e1
        rw [List.getElem?_set_ne c2] at ht e2
        exact r.sep j k s' t q hs ht os ot e1 e2
/-- the object that slot i owns is changed -/
theorem Rel.write {i : Nat} {p : Addr} {o o' : HO} {s t : Slot} (r : Rel C B G0 a σ H G) (hs : a[i]? = some s) (os : isOwn s = true) (hσ : σ[i]? = some (some (.ref p))) (ho : OwnOk C G t o') : Rel C B G0 (a.set i t) σ (upd H p o') G := by
  obtain ⟨p', o1, e, h1, h2, h3, h4⟩ := (SlotOk.own os).mp (r.slot i s hs)
  rw [hσ] at e; cases e
  refine ⟨r.gg, r.gh.keep fun q x hq e => ?_, r.bh.write h4 h1 h2.loose.1, r.new, by rw [List.length_set, r.len], fun j u hu => ?_, fun j k u u' q hu hu' ou ou' e1 e2 => ?_⟩
  · rw [upd_ne (fun z => hq (by rw [z]; exact h3))]; exact e
  · by_cases e : i = j
    · subst e
      have hi : i < a.length := by simpa using (List.getElem?_eq_some_iff.mp hu).1
      rw [List.getElem?_set_self hi] at hu
      cases hu
      have q : ∃ p' o2, σ[i]? = some (some (V.ref p')) ∧ upd H p o' p' = some o2 ∧ OwnOk C G t o2 ∧ G p' = none ∧ B p' = none := ⟨p, o', hσ, upd_same, ho, h3, h4⟩
      cases t <;> first
        | exact q
        | exact ho.elim
    · rw [List.getElem?_set_ne e] at hu
      have q := r.slot j u hu
      by_cases ow : isOwn u = true
      · obtain ⟨p2, o2, x1, x2, x3, x4, x5⟩ := (SlotOk.own ow).mp q
        refine (SlotOk.own ow).mpr ⟨p2, o2, x1, ?_, x3, x4, x5⟩
        rw [upd_ne fun z => e (r.sep i j s u p hs hu os ow hσ (by rw [x1, z]))]
        exact x2
      · cases u with
        | no => trivial
        | val d => exact q
        | own _ => exact absurd rfl ow
        | dK _ => exact absurd rfl ow
        | dT _ => exact absurd rfl ow
  · have hold : ∀ {m : Nat} {y : Slot}, (a.set i t)[m]? = some y → isOwn y = true → ∃ z, a[m]? = some z ∧ isOwn z = true := fun {m y} hy oy => by
      by_cases e : i = m
      · subst e; exact ⟨s, hs, os⟩
      · rw [List.getElem?_set_ne e] at hy; exact ⟨y, hy, oy⟩
    obtain ⟨z1, w1, w2⟩ := hold hu ou
    obtain ⟨z2, w3, w4⟩ := hold hu' ou'
    exact r.sep j k z1 z2 q w1 w3 w2 w4 e1 e2
/-- slot i's own object is frozen -/
theorem Rel.freeze {i : Nat} {p : Addr} {o : HO} {s : Slot} {d : D} (r : Rel C B G0 a σ H G) (hs : a[i]? = some s) (os : isOwn s = true) (hσ : σ[i]? = some (some (.ref p))) (hp : H p = some o) (hd : Has C (upd G p o) (.ref p) d) :
    Rel C B G0 (a.set i (.val d)) σ H (upd G p o) ∧ Grow C G (upd G p o) := by
  obtain ⟨p', o1, e, h1, h2, h3, h4⟩ := (SlotOk.own os).mp (r.slot i s hs)
  rw [hσ] at e; cases e
  have g : Grow C G (upd G p o) := .new h3
  refine ⟨⟨r.gg.trans g, r.gh.add h3 hp (by rw [h1] at hp; cases hp; have := h2.loose.1; cases o <;> first | rfl | cases this) fun q x _ e => e, r.bh, fun q x e1 ek e2 => ?_, by rw [List.length_set, r.len], fun j u hu => ?_, fun j k u u' q hu hu' ou ou' e1 e2 => ?_⟩, g⟩
  · have z : q ≠ p := fun z => by subst z; rw [h4] at e1; cases e1
    rw [upd_ne z]; exact r.new q x e1 ek e2
  · by_cases e : i = j
    · subst e
      have hi : i < a.length := by simpa using (List.getElem?_eq_some_iff.mp hu).1
      rw [List.getElem?_set_self hi] at hu
      cases hu
      exact ⟨.ref p, hσ, hd⟩
    · rw [List.getElem?_set_ne e] at hu
      have q := r.slot j u hu
      by_cases ow : isOwn u = true
      · obtain ⟨p2, o2, x1, x2, x3, x4, x5⟩ := (SlotOk.own ow).mp q
        refine (SlotOk.own ow).mpr ⟨p2, o2, x1, x2, x3.mono g, ?_, x5⟩
        rw [upd_ne fun z => e (r.sep i j s u p hs hu os ow hσ (by rw [x1, z]))]
        exact x4
      · cases u with
        | no => trivial
        | val d => obtain ⟨v, e', w⟩ := q; exact ⟨v, e', w.mono g⟩
        | own _ => exact absurd rfl ow
        | dK _ => exact absurd rfl ow
        | dT _ => exact absurd rfl ow
  · have nj : ∀ {m : Nat} {u : Slot}, (a.set i (.val d))[m]? = some u → isOwn u = true → i ≠ m := fun {m u} hu ou e => by
      subst e
      have hi : i < a.length := by simpa using (List.getElem?_eq_some_iff.mp hu).1
      rw [List.getElem?_set_self hi] at hu
      cases hu; cases ou
    rw [List.getElem?_set_ne (nj hu ou)] at hu
    rw [List.getElem?_set_ne (nj hu' ou')] at hu'
    exact r.sep j k u u' q hu hu' ou ou' e1 e2
end
end DL
end
section
set_option Elab.async false
set_option linter.all false
set_option maxRecDepth 100000
namespace DL
open PySem PySem.Spec PyProof.Rows L2

/-! ### what a body computes -/
inductive R (α : Type) where
  | ok (x : α) (a : AS) | exc (c : Nat) (a : AS) | bad
abbrev M (α : Type) := AS → R α
def M.bind {α β : Type} (m : M α) (f : α → M β) : M β := fun a => match m a with
  | .ok x a' => f x a'
  | .exc c a' => .exc c a'
  | .bad => .bad
def M.pure {α : Type} (x : α) : M α := fun a => .ok x a
def lft {α : Type} (o : Option α) : M α := fun a => match o with
  | some x => .ok x a
  | none => .bad
def M.map {α β : Type} (f : α → β) (m : M α) : M β := m.bind fun x => M.pure (f x)

/-- m runs from the slots σ, the heap H, of which G is frozen -/
def run {α : Type} (C : Cf) (W : WX) (m : M α) (σ : DL.St) (H G : Hp) (k : Hp → AS → Hp → Hp → α → Prop) : Prop :=
  ∃ B G0 a, Rel C B G0 a σ H G ∧ match m a with
    | .ok x a' => ∀ H' G', Grow C G G' → Rel C B G0 a' σ H' G' → k B a' H' G' x
    | .exc c a' => ∀ H' G', Grow C G G' → Rel C B G0 a' σ H' G' → W (.ref (C.xa c)) none σ H'
    | .bad => False
section
variable {C : Cf} {W : WX} {σ : DL.St} {H G : Hp} {α β : Type}
theorem run_bind {m : M α} {f : α → M β} {k : Hp → AS → Hp → Hp → β → Prop} (h : run C W (m.bind f) σ H G k) : run C W m σ H G (fun _ _ H1 G1 x => run C W (f x) σ H1 G1 k) := by
  obtain ⟨B, G0, a, r, h⟩ := h
  refine ⟨B, G0, a, r, ?_⟩
  unfold M.bind at h
  cases e : m a with
  | ok x a1 =>
    rw [e] at h
    intro H1 G1 g1 r1
    refine ⟨B, G0, a1, r1, ?_⟩
    simp only at h
    cases e2 : f x a1 with
    | ok y a2 => rw [e2] at h; exact fun H2 G2 g2 r2 => h H2 G2 (g1.trans g2) r2
    | exc c a2 => rw [e2] at h; exact fun H2 G2 g2 r2 => h H2 G2 (g1.trans g2) r2
    | bad => rw [e2] at h; exact h
  | exc c a1 => rw [e] at h; exact h
  | bad => rw [e] at h; exact h
theorem run_imp {m : M α} {k k' : Hp → AS → Hp → Hp → α → Prop} (h : run C W m σ H G k) (hk : ∀ B a H' G' x, Grow C G G' → k B a H' G' x → k' B a H' G' x) : run C W m σ H G k' := by
  obtain ⟨B, G0, a, r, h⟩ := h
  refine ⟨B, G0, a, r, ?_⟩
  cases e : m a with
  | ok x a1 => rw [e] at h; exact fun H' G' g r' => hk _ _ _ _ _ g (h H' G' g r')
  | exc c a1 => rw [e] at h; exact h
  | bad => rw [e] at h; exact h
theorem run_pure {x : α} {k : Hp → AS → Hp → Hp → α → Prop} (h : run C W (M.pure x) σ H G k) : ∃ B G0 a, Rel C B G0 a σ H G ∧ ∀ H' G', Grow C G G' → Rel C B G0 a σ H' G' → k B a H' G' x := h
theorem run_lft {o : Option α} {k : Hp → AS → Hp → Hp → α → Prop} (h : run C W (lft o) σ H G k) : ∃ x, o = some x ∧ ∃ B G0 a, Rel C B G0 a σ H G ∧ ∀ H' G', Grow C G G' → Rel C B G0 a σ H' G' → k B a H' G' x := by
  obtain ⟨B, G0, a, r, h⟩ := h
  cases o with
  | none => exact h.elim
  | some x => exact ⟨x, rfl, B, G0, a, r, h⟩
end

/-! ### the judgements -/
def kD (C : Cf) (Q : VK) : Hp → AS → Hp → Hp → D → Prop := fun _ _ H' G' d => ∀ v, Has C G' v d → Q v H'
def kAll (C : Cf) (Q : List V → Hp → Prop) : Hp → AS → Hp → Hp → List D → Prop := fun _ _ H' G' ds => ∀ vs, HasAll C G' vs ds → Q vs H'
def tD (C : Cf) (W : WX) (m : M D) : TE := fun σ H Q => ∃ G, run C W m σ H G (kD C Q)
def tDA (C : Cf) (W : WX) (m : M (List D)) : TA := fun σ H Q => ∃ G, run C W m σ H G (kAll C Q)
def tDB (C : Cf) (W : WX) (m : M Bool) : TT := fun σ H Q => ∃ G, run C W m σ H G (fun _ _ H' _ b => Q b H')
/-- a new list, not yet anybody's -/
def tDF (C : Cf) (W : WX) (s : α → Slot) (m : M α) : TE := fun σ H Q => ∃ G, run C W m σ H G (fun B a H' G' x => ∀ p o H2, H2 p = some o → OwnOk C G' (s x) o → G' p = none → B p = none → Lone a σ p → Ext C G' H' G' H2 → Q (.ref p) H2)
structure DE (X : Cx) (C : Cf) (W : WX) (e : Expr) (m : M D) : Prop where
  pe : PE X e (tD C W m)
structure DA (X : Cx) (C : Cf) (W : WX) (es : List Expr) (m : M (List D)) : Prop where
  pa : PA X es (tDA C W m)
structure DT (X : Cx) (C : Cf) (W : WX) (e : Expr) (m : M Bool) : Prop where
  pt : PT X e (tDB C W m)
structure DF (X : Cx) (C : Cf) (W : WX) (s : α → Slot) (e : Expr) (m : M α) : Prop where
  pe : PE X e (tDF C W s m)
theorem PE.weak {X : Cx} {e : Expr} {t t' : TE} (h : PE X e t) (w : ∀ σ H Q, t' σ H Q → t σ H Q) : PE X e t' := ⟨fun pins s σ H Q I q => h.run pins s σ H Q I (w _ _ _ q)⟩
theorem PA.weak {X : Cx} {e : List Expr} {t t' : TA} (h : PA X e t) (w : ∀ σ H Q, t' σ H Q → t σ H Q) : PA X e t' := ⟨fun pos pins s σ H Q I q => h.run pos pins s σ H Q I (w _ _ _ q)⟩
theorem PW.weak {X : Cx} {e : Expr} {t t' : TT} (h : PW X e t) (w : ∀ σ H Q, t' σ H Q → t σ H Q) : PW X e t' := ⟨fun wh pins s σ H Q I q => h.run wh pins s σ H Q I (w _ _ _ q)⟩
theorem PT.weak {X : Cx} {e : Expr} {t t' : TT} (h : PT X e t) (w : ∀ σ H Q, t' σ H Q → t σ H Q) : PT X e t' := ⟨fun pins s σ H Q I q => h.run pins s σ H Q I (w _ _ _ q)⟩
theorem PS.weak {X : Cx} {e : Stmt} {t t' : TS} (h : PS X e t) (w : ∀ D σ H, t' D σ H → t D σ H) : PS X e t' := ⟨fun pins s σ H Q I q => h.run pins s σ H Q I (w _ _ _ q)⟩
theorem PSs.weak {X : Cx} {e : List Stmt} {t t' : TS} (h : PSs X e t) (w : ∀ D σ H, t' D σ H → t D σ H) : PSs X e t' := ⟨fun pins s σ H Q I q => h.run pins s σ H Q I (w _ _ _ q)⟩

section
variable {X : Cx} {C : Cf} {W : WX} {pos : Pos}
/-! ### names, constants -/
def eC (d : D) : M D := M.pure d
theorem de_of_pure {e : Expr} {v : V} {d : D} (h : PE X e (tC v)) (hv : ∀ G, Has C G v d) : DE X C W e (eC d) :=
  ⟨PE.weak h fun σ H Q ⟨G, q⟩ => by
    obtain ⟨B, G0, a, r, q⟩ := run_pure q
    exact q H G .refl r v (hv G)⟩
theorem d_int {i j} : DE X C W (.Constant (.int i) j pos) (eC (.int i)) := de_of_pure pe_int fun _ => .int i
theorem d_bl {b j} : DE X C W (.Constant (.bool b) j pos) (eC (.bl b)) := de_of_pure pe_bl fun _ => .bl b
theorem d_non {j} : DE X C W (.Constant .none j pos) (eC .non) := de_of_pure pe_non fun _ => .non
theorem d_str {x j} : DE X C W (.Constant (.str x) j pos) (eC (.str x)) := de_of_pure pe_str fun _ => .str x
/-- a module's name -/
theorem d_glob {x : Str} {v : V} {d : D} {u : Value} (hg : Gl X x) (hm : X.mg x = some u) (r : RelV v u) (hv : ∀ G, Has C G v d) (hd : (x == ("__debug__" : Str)) = false := by decide) : DE X C W (.Name x pos) (eC d) := de_of_pure (pe_glob hg hm r hd) hv

/-- slot i is read: its own list is frozen from here on -/
def rd (i : Nat) : M D := fun a => match a[i]? with
  | some (.val d) => .ok d a
  | some (.own ds) => .ok (.lst ds) (a.set i (.val (.lst ds)))
  | some (.dK kvs) => .ok (.dic kvs) (a.set i (.val (.dic kvs)))
  | _ => .bad
theorem rd_var {i : Nat} {σ : DL.St} {H G : Hp} {k : Hp → AS → Hp → Hp → D → Prop} (h : run C W (rd i) σ H G k) : ∃ v, σ[i]? = some (some v) ∧ ∃ B a d G', Grow C G G' ∧ Has C G' v d ∧ k B a H G' d := by
  obtain ⟨B, G0, a, r, h⟩ := h
  unfold rd at h
  cases e : a[i]? with
  | none => rw [e] at h; exact h.elim
  | some s =>
    rw [e] at h
    cases s with
    | no => exact h.elim
    | dT ds => exact h.elim
    | val d =>
      obtain ⟨v, e1, e2⟩ := r.slot i _ e
      exact ⟨v, e1, B, a, d, G, .refl, e2, h H G .refl r⟩
    | own ds =>
      obtain ⟨p, o, e1, e2, e3, e4, e5⟩ := r.slot i _ e
      cases o with
      | lst vs =>
        have hd : Has C (upd G p (.lst vs)) (.ref p) (.lst ds) := .lst upd_same (HasAll.mono (.new e4) e3)
        obtain ⟨r', g⟩ := r.freeze e rfl e1 e2 hd
        exact ⟨.ref p, e1, B, _, _, _, g, hd, h H _ g r'⟩
      | _ => exact e3.elim
    | dK ds =>
      obtain ⟨p, o, e1, e2, e3, e4, e5⟩ := r.slot i _ e
      cases o with
      | dK vs =>
        have hd : Has C (upd G p (.dK vs)) (.ref p) (.dic ds) := .dic upd_same (HasKv.mono (.new e4) e3)
        obtain ⟨r', g⟩ := r.freeze e rfl e1 e2 hd
        exact ⟨.ref p, e1, B, _, _, _, g, hd, h H _ g r'⟩
      | _ => exact e3.elim
theorem d_rd (i : Nat) {x : Str} (hN : X.N[i]? = some x := by rfl) (hv : Vis X.env.scope x := by first | exact Or.inl rfl | exact Or.inr (Or.inl rfl) | exact Or.inr (Or.inr rfl)) (hd : (x == ("__debug__" : Str)) = false := by decide)
    (hcd : (x == ("__classdict__" : Str)) = false := by decide) : DE X C W (.Name x pos) (rd i) :=
  ⟨PE.weak (pe_var hN hv hd hcd) fun σ H Q ⟨G, q⟩ => by
    obtain ⟨v, e, B, a, d, G', g, hv, k⟩ := rd_var q
    exact ⟨v, e, k v hv⟩⟩

/-! ### operators: pure functions of data -/
/-- an operation by values does what F says of data -/
def Op1 (C : Cf) (r : V → Hp → VK → Prop) (F : D → Option D) : Prop :=
  ∀ (W : WX) (σ : DL.St) (H G : Hp) (x : V) (dx : D) (Q : VK), Has C G x dx → run C W (lft (F dx)) σ H G (kD C Q) → r x H Q
def Op2 (C : Cf) (r : R2) (F : D → D → Option D) : Prop :=
  ∀ (W : WX) (σ : DL.St) (H G : Hp) (x y : V) (dx dy : D) (Q : VK), Has C G x dx → Has C G y dy → run C W (lft (F dx dy)) σ H G (kD C Q) → r x y H Q
def OpN (C : Cf) (r : List V → Hp → VK → Prop) (F : List D → Option D) : Prop :=
  ∀ (W : WX) (σ : DL.St) (H G : Hp) (xs : List V) (ds : List D) (Q : VK), HasAll C G xs ds → run C W (lft (F ds)) σ H G (kD C Q) → r xs H Q
def e1 (F : D → Option D) (m : M D) : M D := m.bind fun x => lft (F x)
def e2 (F : D → D → Option D) (m n : M D) : M D := m.bind fun x => n.bind fun y => lft (F x y)
def eN (F : List D → Option D) (m : M (List D)) : M D := m.bind fun xs => lft (F xs)
theorem d_op {op : Operator} {r : R2} {F : D → D → Option D} {a b : Expr} {ma mb : M D} (ho : OpR X (binaryOp op) r) (hF : Op2 C r F) (ha : DE X C W a ma) (hb : DE X C W b mb) : DE X C W (.BinOp a op b pos) (e2 F ma mb) :=
  ⟨PE.weak (pe_op ho ha.pe hb.pe) fun σ H Q ⟨G, q⟩ => ⟨G, run_imp (run_bind q) fun _ _ H1 G1 x g1 q1 v hv => ⟨G1, run_imp (run_bind q1) fun _ _ H2 G2 y g2 q2 u hu => hF W σ H2 G2 v u x y Q (hv.mono g2) hu q2⟩⟩⟩
theorem d_un {op : UnaryOp} {r : V → Hp → VK → Prop} {F : D → Option D} {a : Expr} {ma : M D} (ho : UnR X (unaryOp op) r) (hF : Op1 C r F) (ha : DE X C W a ma) : DE X C W (.UnaryOp op a pos) (e1 F ma) :=
  ⟨PE.weak (pe_un ho ha.pe) fun σ H Q ⟨G, q⟩ => ⟨G, run_imp (run_bind q) fun _ _ H1 G1 x g1 q1 v hv => hF W σ H1 G1 v x Q hv q1⟩⟩
theorem d_ix {r : R2} {F : D → D → Option D} {a b : Expr} {ma mb : M D} (ho : IxR X r) (hF : Op2 C r F) (ha : DE X C W a ma) (hb : DE X C W b mb) (hs : PlainIx b := by exact fun _ _ => rfl) : DE X C W (.Subscript a b pos) (e2 F ma mb) :=
  ⟨PE.weak (pe_ix ho ha.pe hb.pe hs) fun σ H Q ⟨G, q⟩ => ⟨G, run_imp (run_bind q) fun _ _ H1 G1 x g1 q1 v hv => ⟨G1, run_imp (run_bind q1) fun _ _ H2 G2 y g2 q2 u hu => hF W σ H2 G2 v u x y Q (hv.mono g2) hu q2⟩⟩⟩

/-! ### arguments, displays -/
def aNil : M (List D) := M.pure []
def aCons (m : M D) (r : M (List D)) : M (List D) := m.bind fun x => r.bind fun xs => M.pure (x :: xs)
theorem da_nil : DA X C W [] aNil := ⟨PA.weak pa_nil fun σ H Q ⟨G, q⟩ => by
    obtain ⟨B, G0, a, r, q⟩ := run_pure q
    exact q H G .refl r [] .nil⟩
theorem da_cons {e : Expr} {es : List Expr} {m : M D} {n : M (List D)} (h : DE X C W e m) (hr : DA X C W es n) (hs : starEach (e :: es) X.env = (false, eval e X.env) :: starEach es X.env := by rfl) : DA X C W (e :: es) (aCons m n) :=
  ⟨PA.weak (pa_cons h.pe hr.pa hs) fun σ H Q ⟨G, q⟩ => ⟨G, run_imp (run_bind q) fun _ _ H1 G1 x g1 q1 v hv => ⟨G1, run_imp (run_bind q1) fun _ _ H2 G2 xs g2 q2 vs hvs => by
    obtain ⟨B, G0, a, r, q2⟩ := run_pure q2
    exact q2 H2 G2 .refl r (v :: vs) (.cons (hv.mono g2) hvs)⟩⟩⟩
def sz (n : Nat) : Bool := decide (n ≤ 100000)
theorem sz_ok {n : Nat} (h : sz n = true) : n ≤ sizeLine := by
  have h := of_decide_eq_true h
  rw [sizeLine_eq]; omega
def tupF (xs : List D) : Option D := if sz xs.length = true then some (.tup xs) else none
def lstF (xs : List D) : Option D := if sz xs.length = true then some (.lst xs) else none
theorem ite_some {α : Type} {c : Bool} {x y : α} (h : (if c = true then some x else none) = some y) : c = true ∧ x = y := by
  cases c with
  | false => simp at h
  | true => exact ⟨rfl, by simpa using h⟩
theorem d_tup {es : List Expr} {m : M (List D)} {x1} (h : DA X C W es m) : DE X C W (.Tuple es x1 pos) (eN tupF m) :=
  ⟨PE.weak (pe_tup h.pa) fun σ H Q ⟨G, q⟩ => ⟨G, run_imp (run_bind q) fun _ _ H1 G1 xs g1 q1 vs hvs => by
    obtain ⟨d, e, B, G0, a, r, q1⟩ := run_lft q1
    obtain ⟨hz, rfl⟩ := ite_some e
    refine ⟨sz_ok (by rw [hvs.length]; exact hz), fun p n => ?_⟩
    have g : Grow C G1 (upd G1 p (.tup vs)) := .new (r.gh.free n)
    exact q1 _ _ g (r.alloc n) _ (.tup (.of upd_same) (hvs.mono g))⟩⟩
theorem d_lst {es : List Expr} {m : M (List D)} (h : DA X C W es m) : DE X C W (.List es pos) (eN lstF m) :=
  ⟨PE.weak (pe_lst h.pa) fun σ H Q ⟨G, q⟩ => ⟨G, run_imp (run_bind q) fun _ _ H1 G1 xs g1 q1 vs hvs => by
    obtain ⟨d, e, B, G0, a, r, q1⟩ := run_lft q1
    obtain ⟨hz, rfl⟩ := ite_some e
    refine ⟨sz_ok (by rw [hvs.length]; exact hz), fun p n => ?_⟩
    have g : Grow C G1 (upd G1 p (.lst vs)) := .new (r.gh.free n)
    exact q1 _ _ g (r.alloc n) _ (.lst upd_same (hvs.mono g))⟩⟩
def ownF (xs : List D) : Option (List D) := if sz xs.length = true then some xs else none
/-- a written list, for a slot that will change it -/
theorem df_lst {es : List Expr} {m : M (List D)} (h : DA X C W es m) : DF X C W Slot.own (.List es pos) (m.bind fun xs => lft (ownF xs)) :=
  ⟨PE.weak (pe_lst h.pa) fun σ H Q ⟨G, q⟩ => ⟨G, run_imp (run_bind q) fun _ _ H1 G1 xs g1 q1 vs hvs => by
    obtain ⟨d, e, B, G0, a, r, q1⟩ := run_lft q1
    obtain ⟨hz, rfl⟩ := ite_some e
    refine ⟨sz_ok (by rw [hvs.length]; exact hz), fun p n => ?_⟩
    exact q1 H1 G1 .refl r p _ _ upd_same hvs (r.gh.free n) (r.bh.free n) (r.lone n) (.laid r.gh n)⟩⟩

/-! ### tests -/
def asB : D → Option Bool
  | .bl b => some b
  | _ => none
def mB (m : M D) : M Bool := m.bind fun d => lft (asB d)
theorem asB_some {d : D} {b : Bool} (h : asB d = some b) : d = .bl b := by
  cases d <;> first
    | (injection h with h; rw [h])
    | cases h
end
end DL
end
section
set_option Elab.async false
set_option linter.all false
set_option maxRecDepth 100000
namespace DL
open PySem PySem.Spec PyProof.Rows L2
section
variable {X : Cx} {C : Cf} {W : WX} {pos : Pos}
/-! ### tests -/
theorem run_asB {m : M D} {σ : DL.St} {H G : Hp} {Q : Bool → Hp → Prop} (h : run C W (mB m) σ H G (fun _ _ H' _ b => Q b H')) : run C W m σ H G (fun _ _ H1 G1 d => ∃ b, d = .bl b ∧ ∃ B G0 a, Rel C B G0 a σ H1 G1 ∧ ∀ H' G', Grow C G1 G' → Rel C B G0 a σ H' G' → Q b H') :=
  run_imp (run_bind h) fun _ _ H1 G1 d g q => by
    obtain ⟨b, e, B, G0, a, r, q⟩ := run_lft q
    exact ⟨b, asB_some e, B, G0, a, r, q⟩
theorem dt_val {e : Expr} {m : M D} (h : DE X C W e m) (he : ∀ whole, isTrue e X.env whole = (do let v ← whole; standAt e.pos; holding [v] (truthy v)) := by intro _; rfl) : DT X C W e (mB m) :=
  ⟨PT.weak (pt_val h.pe he) fun σ H Q ⟨G, q⟩ => ⟨G, run_imp (run_asB q) fun _ _ H1 G1 d g ⟨b, e, B, G0, a, r, q⟩ v hv => by
    subst e
    cases hv
    exact ⟨b, rfl, q H1 G1 .refl r⟩⟩⟩
theorem dt_cmp {op : CmpOp} {r : R2} {F : D → D → Option D} {a b : Expr} {ma mb : M D} (ho : OpR X (compareOp op) r) (hF : Op2 C r F) (ha : DE X C W a ma) (hb : DE X C W b mb) (hm : behindInMarks op b = false) : DT X C W (.Compare a [op] [b] pos) (mB (e2 F ma mb)) :=
  ⟨PT.weak (pt_cmpR ho ha.pe hb.pe hm) fun σ H Q ⟨G, q⟩ => ⟨G, run_imp (run_bind (run_asB q)) fun _ _ H1 G1 x g1 q1 v hv => ⟨G1, run_imp (run_bind q1) fun _ _ H2 G2 y g2 q2 u hu => by
    refine hF W σ H2 G2 v u x y _ (hv.mono g2) hu (run_imp q2 fun _ _ H3 G3 d g3 q3 z hz => ?_)
    obtain ⟨b, e, B, G0, a, r, q3⟩ := q3
    subst e
    cases hz
    exact ⟨b, rfl, q3 H3 G3 .refl r⟩⟩⟩⟩
theorem de_cmp {op : CmpOp} {r : R2} {F : D → D → Option D} {a b : Expr} {ma mb : M D} (ho : OpR X (compareOp op) r) (hF : Op2 C r F) (ha : DE X C W a ma) (hb : DE X C W b mb) (hm : behindInMarks op b = false) : DE X C W (.Compare a [op] [b] pos) (e2 F ma mb) :=
  ⟨PE.weak (pe_cmpR ho ha.pe hb.pe hm) fun σ H Q ⟨G, q⟩ => ⟨G, run_imp (run_bind q) fun _ _ H1 G1 x g1 q1 v hv => ⟨G1, run_imp (run_bind q1) fun _ _ H2 G2 y g2 q2 u hu => hF W σ H2 G2 v u x y Q (hv.mono g2) hu q2⟩⟩⟩
/-- a op b op' c -/
def e3c (F F' : D → D → Option D) (m n o : M D) : M D := m.bind fun x => n.bind fun y => (lft (F x y)).bind fun z => match z with
  | .bl true => o.bind fun w => lft (F' y w)
  | .bl false => M.pure (.bl false)
  | _ => lft none
theorem chain_ok {r r' : R2} {F F' : D → D → Option D} {ta tb tc : TE} {ma mb mc : M D} {σ : DL.St} {H : Hp} {Q : VK} (hF : Op2 C r F) (hF' : Op2 C r' F') (q : tD C W (e3c F F' ma mb mc) σ H Q) :
    tChain r r' (tD C W ma) (tD C W mb) (tD C W mc) σ H Q := by
  obtain ⟨G, q⟩ := q
  refine ⟨G, run_imp (run_bind q) fun _ _ H1 G1 x g1 q1 v hv => ⟨G1, run_imp (run_bind q1) fun _ _ H2 G2 y g2 q2 u hu => ?_⟩⟩
  refine hF W σ H2 G2 v u x y _ (hv.mono g2) hu (run_imp (run_bind q2) fun _ _ H3 G3 d g3 q3 z hz => ?_)
  cases d with
  | bl b =>
    cases hz
    refine ⟨b, rfl, ?_⟩
    cases b with
    | true =>
      rw [if_pos rfl]
      exact ⟨G3, run_imp (run_bind q3) fun _ _ H4 G4 w g4 q4 t ht => hF' W σ H4 G4 u t y w Q (hu.mono (g3.trans g4)) ht q4⟩
    | false =>
      rw [if_neg Bool.false_ne_true]
      obtain ⟨B, G0, a, r, q3⟩ := run_pure q3
      exact q3 H3 G3 .refl r _ (.bl false)
  | _ => obtain ⟨x, e, _⟩ := run_lft q3; cases e
theorem de_chain {op op' : CmpOp} {r r' : R2} {F F' : D → D → Option D} {a b c : Expr} {ma mb mc : M D} (ho : OpR X (compareOp op) r) (ho' : OpR X (compareOp op') r') (hF : Op2 C r F) (hF' : Op2 C r' F') (ha : DE X C W a ma) (hb : DE X C W b mb) (hc : DE X C W c mc)
    (hm : lastMarks [op, op'] [b, c] = false := by with_unfolding_all rfl) : DE X C W (.Compare a [op, op'] [b, c] pos) (e3c F F' ma mb mc) :=
  ⟨PE.weak (pe_chain ho ho' ha.pe hb.pe hc.pe hm) fun σ H Q q => chain_ok (ta := tD C W ma) (tb := tD C W mb) (tc := tD C W mc) hF hF' q⟩
theorem dt_chain {op op' : CmpOp} {r r' : R2} {F F' : D → D → Option D} {a b c : Expr} {ma mb mc : M D} (ho : OpR X (compareOp op) r) (ho' : OpR X (compareOp op') r') (hF : Op2 C r F) (hF' : Op2 C r' F') (ha : DE X C W a ma) (hb : DE X C W b mb) (hc : DE X C W c mc)
    (hm : lastMarks [op, op'] [b, c] = false := by with_unfolding_all rfl) : DT X C W (.Compare a [op, op'] [b, c] pos) (mB (e3c F F' ma mb mc)) :=
  ⟨PT.weak (pt_chain ho ho' ha.pe hb.pe hc.pe hm) fun σ H Q ⟨G, q⟩ => chain_ok (ta := tD C W ma) (tb := tD C W mb) (tc := tD C W mc) hF hF' ⟨G, run_imp (run_asB q) fun _ _ H1 G1 d g ⟨b, e, B, G0, a, r, q⟩ v hv => by
    subst e
    cases hv
    exact ⟨b, rfl, q H1 G1 .refl r⟩⟩⟩
/-! and, or, not -/
def bAnd (m n : M Bool) : M Bool := m.bind fun b => match b with
  | true => n
  | false => M.pure false
def bOr (m n : M Bool) : M Bool := m.bind fun b => match b with
  | true => M.pure true
  | false => n
def bNot (m : M Bool) : M Bool := m.bind fun b => M.pure (!b)
theorem run_and {m n : M Bool} {σ : DL.St} {H G : Hp} {Q : Bool → Hp → Prop} (h : run C W (bAnd m n) σ H G (fun _ _ H' _ b => Q b H')) :
    tAnd (tDB C W m) (tDB C W n) σ H Q := ⟨G, run_imp (run_bind h) fun _ _ H1 G1 b g q => by
    cases b with
    | true => rw [if_pos rfl]; exact ⟨G1, q⟩
    | false =>
      rw [if_neg Bool.false_ne_true]
      obtain ⟨B, G0, a, r, q⟩ := run_pure q
      exact q H1 G1 .refl r⟩
theorem run_or {m n : M Bool} {σ : DL.St} {H G : Hp} {Q : Bool → Hp → Prop} (h : run C W (bOr m n) σ H G (fun _ _ H' _ b => Q b H')) :
    tOr (tDB C W m) (tDB C W n) σ H Q := ⟨G, run_imp (run_bind h) fun _ _ H1 G1 b g q => by
    cases b with
    | false => rw [if_neg Bool.false_ne_true]; exact ⟨G1, q⟩
    | true =>
      rw [if_pos rfl]
      obtain ⟨B, G0, a, r, q⟩ := run_pure q
      exact q H1 G1 .refl r⟩
theorem dt_not {e : Expr} {m : M Bool} (h : DT X C W e m) : DT X C W (.UnaryOp .Not e pos) (bNot m) :=
  ⟨PT.weak (pt_not h.pt) fun σ H Q ⟨G, q⟩ => ⟨G, run_imp (run_bind q) fun _ _ H1 G1 b g q => by
    obtain ⟨B, G0, a, r, q⟩ := run_pure q
    exact q H1 G1 .refl r⟩⟩
/-- a chain of and, or as a test -/
structure DW (X : Cx) (C : Cf) (W : WX) (e : Expr) (m : M Bool) : Prop where
  pw : PW X e (tDB C W m)
theorem DW.dt {e : Expr} {m : M Bool} (h : DW X C W e m) : DT X C W e m := ⟨h.pw.pt⟩
theorem dw_and1 {e : Expr} {m : M Bool} (h : DT X C W e m) : DW X C W (.BoolOp .And [e] pos) m := ⟨pw_and1 h.pt⟩
theorem dw_or1 {e : Expr} {m : M Bool} (h : DT X C W e m) : DW X C W (.BoolOp .Or [e] pos) m := ⟨pw_or1 h.pt⟩
theorem dw_and {a b : Expr} {rest : List Expr} {m n : M Bool} (ha : DT X C W a m) (hb : DW X C W (.BoolOp .And (b :: rest) pos) n) : DW X C W (.BoolOp .And (a :: b :: rest) pos) (bAnd m n) :=
  ⟨PW.weak (pw_and ha.pt hb.pw) fun σ H Q ⟨G, q⟩ => run_and q⟩
theorem dw_or {a b : Expr} {rest : List Expr} {m n : M Bool} (ha : DT X C W a m) (hb : DW X C W (.BoolOp .Or (b :: rest) pos) n) : DW X C W (.BoolOp .Or (a :: b :: rest) pos) (bOr m n) :=
  ⟨PW.weak (pw_or ha.pt hb.pw) fun σ H Q ⟨G, q⟩ => run_or q⟩
/-- as values (bools) -/
def vAnd (m n : M D) : M D := (mB m).bind fun b => match b with
  | true => n
  | false => M.pure (.bl false)
def vOr (m n : M D) : M D := (mB m).bind fun b => match b with
  | true => M.pure (.bl true)
  | false => n
def vNot (m : M D) : M D := (mB m).bind fun b => M.pure (.bl (!b))
theorem run_mB {α : Type} {m : M D} {f : Bool → M α} {σ : DL.St} {H G : Hp} {k : Hp → AS → Hp → Hp → α → Prop} (h : run C W ((mB m).bind f) σ H G k) :
    run C W m σ H G (fun _ _ H1 G1 d => ∃ b, d = .bl b ∧ run C W (f b) σ H1 G1 k) := by
  have h' : run C W (m.bind fun d => (lft (asB d)).bind f) σ H G k := by
    obtain ⟨B, G0, a, r, h⟩ := h
    refine ⟨B, G0, a, r, ?_⟩
    have e : (m.bind fun d => (lft (asB d)).bind f) a = ((mB m).bind f) a := by
      unfold mB M.bind
      cases m a <;> rfl
    rw [e]; exact h
  refine run_imp (run_bind h') fun _ _ H1 G1 d g q => ?_
  cases hb : asB d with
  | none =>
    rw [hb] at q
    obtain ⟨B, G0, a, r, q⟩ := q
    exact q.elim
  | some b =>
    rw [hb] at q
    exact ⟨b, asB_some hb, q⟩
theorem de_one {op} {e : Expr} {m : M D} (h : DE X C W e m) : DE X C W (.BoolOp op [e] pos) m := ⟨pe_one h.pe⟩
theorem de_and {a b : Expr} {rest : List Expr} {m n : M D} (ha : DE X C W a m) (hb : DE X C W (.BoolOp .And (b :: rest) pos) n) : DE X C W (.BoolOp .And (a :: b :: rest) pos) (vAnd m n) :=
  ⟨PE.weak (pe_and ha.pe hb.pe) fun σ H Q ⟨G, q⟩ => ⟨G, run_imp (run_mB q) fun _ _ H1 G1 d g ⟨b, e, q⟩ v hv => by
    subst e
    cases hv
    refine ⟨b, rfl, ?_⟩
    cases b with
    | true => rw [if_pos rfl]; exact ⟨G1, q⟩
    | false =>
      rw [if_neg Bool.false_ne_true]
      obtain ⟨B, G0, a, r, q⟩ := run_pure q
      exact q H1 G1 .refl r _ (.bl false)⟩⟩
theorem de_or {a b : Expr} {rest : List Expr} {m n : M D} (ha : DE X C W a m) (hb : DE X C W (.BoolOp .Or (b :: rest) pos) n) : DE X C W (.BoolOp .Or (a :: b :: rest) pos) (vOr m n) :=
  ⟨PE.weak (pe_or ha.pe hb.pe) fun σ H Q ⟨G, q⟩ => ⟨G, run_imp (run_mB q) fun _ _ H1 G1 d g ⟨b, e, q⟩ v hv => by
    subst e
    cases hv
    refine ⟨b, rfl, ?_⟩
    cases b with
    | false => rw [if_neg Bool.false_ne_true]; exact ⟨G1, q⟩
    | true =>
      rw [if_pos rfl]
      obtain ⟨B, G0, a, r, q⟩ := run_pure q
      exact q H1 G1 .refl r _ (.bl true)⟩⟩
theorem de_not {e : Expr} {m : M D} (h : DE X C W e m) : DE X C W (.UnaryOp .Not e pos) (vNot m) :=
  ⟨PE.weak (pe_not h.pe) fun σ H Q ⟨G, q⟩ => ⟨G, run_imp (run_mB q) fun _ _ H1 G1 d g ⟨b, e, q⟩ v hv => by
    subst e
    cases hv
    obtain ⟨B, G0, a, r, q⟩ := run_pure q
    exact ⟨b, rfl, q H1 G1 .refl r _ (.bl _)⟩⟩⟩

/-! ### statements -/
inductive RS where
  | nx (a : AS) | ret (d : D) (a : AS) | brk (a : AS) | ct (a : AS) | exc (c : Nat) (a : AS) | bad
abbrev MS := AS → RS
def sBind {α : Type} (m : M α) (f : α → MS) : MS := fun a => match m a with
  | .ok x a' => f x a'
  | .exc c a' => .exc c a'
  | .bad => .bad
def sSeq (m n : MS) : MS := fun a => match m a with
  | .nx a' => n a'
  | r => r
/-- what is wanted behind -/
def ends (C : Cf) (W : WX) (Dn : Ends) (B G0 : Hp) (σ : DL.St) (G : Hp) : RS → Prop
  | .nx a' => ∀ σ' H' G', Grow C G G' → Rel C B G0 a' σ' H' G' → Dn.nx σ' H'
  | .ret d a' => ∀ v σ' H' G', Grow C G G' → Rel C B G0 a' σ' H' G' → Has C G' v d → Dn.rt v H'
  | .brk a' => ∀ σ' H' G', Grow C G G' → Rel C B G0 a' σ' H' G' → Dn.bk σ' H'
  | .ct a' => ∀ σ' H' G', Grow C G G' → Rel C B G0 a' σ' H' G' → Dn.ct σ' H'
  | .exc c a' => ∀ σ' H' G', Grow C G G' → Rel C B G0 a' σ' H' G' → W (.ref (C.xa c)) none σ' H'
  | .bad => False
def srun (C : Cf) (W : WX) (m : MS) (Dn : Ends) (σ : DL.St) (H G : Hp) : Prop := ∃ B G0 a, Rel C B G0 a σ H G ∧ ends C W Dn B G0 σ G (m a)
def tS (C : Cf) (W : WX) (m : MS) : TS := fun Dn σ H => ∃ G, srun C W m Dn σ H G
structure DS (X : Cx) (C : Cf) (W : WX) (st : Stmt) (m : MS) : Prop where
  ps : PS X st (tS C W m)
structure DSs (X : Cx) (C : Cf) (W : WX) (sts : List Stmt) (m : MS) : Prop where
  pss : PSs X sts (tS C W m)
theorem ends.imp {Dn Dn' : Ends} {B G0 G G' : Hp} {σ σ' : DL.St} {r : RS} (g : Grow C G' G) (h : ends C W Dn B G0 σ G' r) (h1 : ∀ σ' H', Dn.nx σ' H' → Dn'.nx σ' H') (h2 : ∀ v H', Dn.rt v H' → Dn'.rt v H') (h3 : ∀ σ' H', Dn.bk σ' H' → Dn'.bk σ' H') (h4 : ∀ σ' H', Dn.ct σ' H' → Dn'.ct σ' H') :
    ends C W Dn' B G0 σ' G r := by
  cases r with
  | nx a => exact fun σ' H' G' g' r' => h1 _ _ (h σ' H' G' (g.trans g') r')
  | ret d a => exact fun v σ' H' G' g' r' hv => h2 _ _ (h v σ' H' G' (g.trans g') r' hv)
  | brk a => exact fun σ' H' G' g' r' => h3 _ _ (h σ' H' G' (g.trans g') r')
  | ct a => exact fun σ' H' G' g' r' => h4 _ _ (h σ' H' G' (g.trans g') r')
  | exc c a => exact fun σ' H' G' g' r' => h σ' H' G' (g.trans g') r'
  | bad => exact h
theorem srun_bind {α : Type} {m : M α} {f : α → MS} {Dn : Ends} {σ : DL.St} {H G : Hp} (h : srun C W (sBind m f) Dn σ H G) : run C W m σ H G (fun _ _ H1 G1 x => srun C W (f x) Dn σ H1 G1) := by
  obtain ⟨B, G0, a, r, h⟩ := h
  refine ⟨B, G0, a, r, ?_⟩
  unfold sBind at h
  cases e : m a with
  | ok x a1 =>
    rw [e] at h
    exact fun H1 G1 g1 r1 => ⟨B, G0, a1, r1, h.imp g1 (fun _ _ z => z) (fun _ _ z => z) (fun _ _ z => z) fun _ _ z => z⟩
  | exc c a1 => rw [e] at h; exact fun H' G' g r' => h σ H' G' g r'
  | bad => rw [e] at h; exact h
theorem ds_nil : DSs X C W [] RS.nx := ⟨PSs.weak pss_nil fun Dn σ H ⟨G, B, G0, a, r, h⟩ => h σ H G .refl r⟩
theorem seq_ok {m n : MS} {Dn : Ends} {σ : DL.St} {H : Hp} (h : tS C W (sSeq m n) Dn σ H) : tS C W m { Dn with nx := tS C W n Dn } σ H := by
  obtain ⟨G, B, G0, a, r, h⟩ := h
  refine ⟨G, B, G0, a, r, ?_⟩
  unfold sSeq at h
  cases e : m a with
  | nx a1 =>
    rw [e] at h
    exact fun σ1 H1 G1 g1 r1 => ⟨G1, B, G0, a1, r1, h.imp g1 (fun _ _ z => z) (fun _ _ z => z) (fun _ _ z => z) fun _ _ z => z⟩
  | ret d a1 => rw [e] at h; exact h
  | brk a1 => rw [e] at h; exact h
  | ct a1 => rw [e] at h; exact h
  | exc c a1 => rw [e] at h; exact h
  | bad => rw [e] at h; exact h
theorem ds_cons {st : Stmt} {rest : List Stmt} {m n : MS} (h : DS X C W st m) (hr : DSs X C W rest n) : DSs X C W (st :: rest) (sSeq m n) :=
  ⟨PSs.weak (pss_cons h.ps hr.pss) fun Dn σ H q => seq_ok q⟩
theorem ds_one {st : Stmt} {m : MS} (h : DS X C W st m) : DSs X C W [st] m := ⟨pss_one h.ps⟩
theorem d_pass : DS X C W (.Pass pos) RS.nx := ⟨PS.weak ps_pass fun Dn σ H ⟨G, B, G0, a, r, h⟩ => h σ H G .refl r⟩
theorem d_break : DS X C W (.Break pos) RS.brk := ⟨PS.weak ps_break fun Dn σ H ⟨G, B, G0, a, r, h⟩ => h σ H G .refl r⟩
theorem d_continue : DS X C W (.Continue pos) RS.ct := ⟨PS.weak ps_continue fun Dn σ H ⟨G, B, G0, a, r, h⟩ => h σ H G .refl r⟩
theorem d_doc {x j pos'} : DS X C W (.Expr (.Constant (.str x) j pos) pos') RS.nx := ⟨PS.weak ps_doc fun Dn σ H ⟨G, B, G0, a, r, h⟩ => h σ H G .refl r⟩
def sRet (m : M D) : MS := sBind m fun d a => .ret d a
theorem d_ret {e : Expr} {m : M D} (h : DE X C W e m) : DS X C W (.Return (some e) pos) (sRet m) :=
  ⟨PS.weak (ps_ret h.pe) fun Dn σ H ⟨G, q⟩ => ⟨G, run_imp (srun_bind q) fun _ _ H1 G1 d g ⟨B, G0, a, r, q⟩ v hv => q v σ H1 G1 .refl r hv⟩⟩
theorem d_retN : DS X C W (.Return none pos) (fun a => .ret .non a) := ⟨PS.weak ps_retN fun Dn σ H ⟨G, B, G0, a, r, h⟩ => h .non σ H G .refl r .non⟩
def sIf (t : M Bool) (m n : MS) : MS := sBind t fun b => match b with
  | true => m
  | false => n
theorem d_if {c : Expr} {a b : List Stmt} {t : M Bool} {m n : MS} (hc : DT X C W c t) (ha : DSs X C W a m) (hb : DSs X C W b n) : DS X C W (.If c a b pos) (sIf t m n) :=
  ⟨PS.weak (ps_if hc.pt ha.pss hb.pss) fun Dn σ H ⟨G, q⟩ => ⟨G, run_imp (srun_bind q) fun _ _ H1 G1 b g q => by
    cases b with
    | true => rw [if_pos rfl]; exact ⟨G1, q⟩
    | false => rw [if_neg Bool.false_ne_true]; exact ⟨G1, q⟩⟩⟩
/-- an expression whose value is dropped -/
def sDrop (m : M D) : MS := sBind m fun _ => RS.nx
theorem d_expr {e : Expr} {m : M D} (h : DE X C W e m) (hs : swapsWith e none pos.line X.env = pure false := by rfl) : DS X C W (.Expr e pos) (sDrop m) :=
  ⟨PS.weak (ps_expr h.pe hs) fun Dn σ H ⟨G, q⟩ => ⟨G, run_imp (srun_bind q) fun _ _ H1 G1 d g ⟨B, G0, a, r, q⟩ v hv => q σ H1 G1 .refl r⟩⟩
/-! targets -/
abbrev Tg := D → AS → Option AS
def gN (i : Nat) : Tg := fun d a => some (a.set i (.val d))
theorem wipe_get (σ : DL.St) : ∀ (vs : List Nat) (j : Nat), (wipe σ vs)[j]? = if j ∈ vs ∧ j < σ.length then some none else σ[j]?
  | [], j => by simp [wipe]
  | v :: vs, j => by
    unfold wipe
    by_cases e : v = j
    · subst e
      by_cases hl : v < σ.length
      · rw [List.getElem?_set_self (by rw [wipe_length]; exact hl), if_pos ⟨List.mem_cons_self, hl⟩]
      · rw [if_neg (fun z => hl z.2), List.getElem?_eq_none (by rw [List.length_set, wipe_length]; omega), List.getElem?_eq_none (by omega)]
    · rw [List.getElem?_set_ne e, wipe_get σ vs j]
      by_cases h : j ∈ vs ∧ j < σ.length
      · rw [if_pos h, if_pos ⟨List.mem_cons_of_mem _ h.1, h.2⟩]
      · rw [if_neg h, if_neg (fun z => h ⟨(List.mem_cons.mp z.1).resolve_left (fun w => e w.symm), z.2⟩)]
theorem wipe_set {σ : DL.St} {i : Nat} {x : Option V} {vs : List Nat} (h : i ∈ vs) : wipe (σ.set i x) vs = wipe σ vs := by
  refine List.ext_getElem? fun j => ?_
  rw [wipe_get, wipe_get, List.length_set]
  by_cases e : j ∈ vs ∧ j < σ.length
  · rw [if_pos e, if_pos e]
  · rw [if_neg e, if_neg e]
    by_cases ij : i = j
    · subst ij
      rw [List.getElem?_eq_none (by rw [List.length_set]; exact Nat.le_of_not_lt fun z => e ⟨h, z⟩), List.getElem?_eq_none (Nat.le_of_not_lt fun z => e ⟨h, z⟩)]
    · rw [List.getElem?_set_ne ij]
def TGok (C : Cf) (t : TG) (g : Tg) (ix : List Nat) : Prop := ∀ (B G0 G H : Hp) (a a' : AS) (σ : DL.St) (v : V) (d : D) (Q : DL.St → Hp → Prop), Rel C B G0 a σ H G → Has C G v d → g d a = some a' →
  (∀ σ', Rel C B G0 a' σ' H G → (∀ vs : List Nat, (∀ i ∈ ix, i ∈ vs) → wipe σ' vs = wipe σ vs) → Q σ' H) → t v σ H Q
structure DG (X : Cx) (C : Cf) (tg : Expr) (t : TG) (g : Tg) (ix : List Nat) : Prop where
  pg : PG X tg t
  ok : TGok C t g ix
theorem dg_name {i : Nat} {x : Str} (hN : X.N.Nodup) (hi : X.N[i]? = some x := by rfl) (hx : Loc X.env.scope x := by first | exact Or.inl rfl | exact Or.inr rfl) (hf : X.fn x = true ∨ X.env.scope.names.lookup x = some .local := by first | exact .inl rfl | exact .inr rfl | assumption) : DG X C (.Name x pos) (gName i) (gN i) [i] :=
  ⟨pg_name hN hi hx hf, fun B G0 G H a a' σ v d Q r hv e q => by
    cases e
    exact q _ (r.setVal hv) fun vs h => wipe_set (h i List.mem_cons_self)⟩
def gNils : List D → AS → Option AS
  | [], a => some a
  | _ :: _, _ => none
def gConss (g : Tg) (r : List D → AS → Option AS) : List D → AS → Option AS
  | d :: ds, a => (g d a).bind (r ds)
  | [], _ => none
def TGsok (C : Cf) (t : TGs) (g : List D → AS → Option AS) (ix : List Nat) : Prop := ∀ (B G0 G H : Hp) (a a' : AS) (σ : DL.St) (vs : List V) (ds : List D) (Q : DL.St → Hp → Prop), Rel C B G0 a σ H G → HasAll C G vs ds → g ds a = some a' →
  (∀ σ', Rel C B G0 a' σ' H G → (∀ vs : List Nat, (∀ i ∈ ix, i ∈ vs) → wipe σ' vs = wipe σ vs) → Q σ' H) → t vs σ H Q
structure DGs (X : Cx) (C : Cf) (tgs : List Expr) (t : TGs) (g : List D → AS → Option AS) (ix : List Nat) : Prop where
  pg : PGs X tgs t
  ok : TGsok C t g ix
theorem dgs_nil : DGs X C [] gNil gNils [] := ⟨pgs_nil, fun B G0 G H a a' σ vs ds Q r hv e q => by
  cases hv with
  | nil => cases e; exact ⟨rfl, q σ r fun _ _ => rfl⟩
  | cons => cases e⟩
theorem dgs_cons {e : Expr} {es : List Expr} {t : TG} {u : TGs} {g : Tg} {gr : List D → AS → Option AS} {ix iy : List Nat} (h : DG X C e t g ix) (hr : DGs X C es u gr iy) (hs : (assignEach (e :: es) X.env).map (·.2) = assign e X.env :: (assignEach es X.env).map (·.2) := by rfl) : DGs X C (e :: es) (gCons t u) (gConss g gr) (ix ++ iy) := by
  refine ⟨pgs_cons h.pg hr.pg hs, fun B G0 G H a a' σ vs ds Q r hv e q => ?_⟩
  cases hv with
  | nil => cases e
  | @cons v vs d ds hv hvs =>
    have e : (g d a).bind (gr ds) = some a' := e
    cases e1 : g d a with
    | none => rw [e1] at e; cases e
    | some a1 =>
      rw [e1] at e
      exact ⟨v, vs, rfl, h.ok B G0 G H a a1 σ v d _ r hv e1 fun σ1 r1 w1 => hr.ok B G0 G H a1 a' σ1 vs ds Q r1 hvs e fun σ2 r2 w2 => q σ2 r2 fun vs hx => (w2 vs fun i hi => hx i (List.mem_append_right _ hi)).trans (w1 vs fun i hi => hx i (List.mem_append_left _ hi))⟩
/-- a tuple taken apart -/
def gT (g : List D → AS → Option AS) (n : Nat) : Tg := fun d a => match d with
  | .tup ds => if ds.length = n then g ds a else none
  | _ => none
theorem dg_tup {es : List Expr} {k n : Nat} {u : TGs} {g : List D → AS → Option AS} {ix : List Nat} (h : DGs X C es u g ix) (hK : X.K = C.K := by rfl) (hc : X.calm = true := by rfl) (hn : (assignEach es X.env).length = n := by rfl) (hst : (assignEach es X.env).findIdx? (·.1) = none := by rfl) : DG X C (.Tuple es k pos) (gTup C.K n u) (gT g n) ix := by
  refine ⟨by rw [← hK]; exact pg_tup hc h.pg hn hst, fun B G0 G H a a' σ v d Q r hv e q => ?_⟩
  cases d with
  | tup ds =>
    cases hv with
    | tup hs hvs =>
      unfold gT at e
      simp only at e
      split at e
      · rename_i hl
        refine ⟨_, _, rfl, (Sub.grow (C := C) r.gh).sqT hs, by rw [hvs.length]; exact hl, h.ok B G0 G H a a' σ _ ds Q r hvs e q⟩
      · cases e
  | _ => cases e
/-- target = value -/
def sAsg (m : M D) (g : Tg) : MS := sBind m fun d a => match g d a with
  | some a' => .nx a'
  | none => .bad
theorem d_asg {tg e : Expr} {m : M D} {t : TG} {g : Tg} {ix : List Nat} (he : DE X C W e m) (hg : DG X C tg t g ix) (hs : swapsWithSole [tg] e pos.line X.env = pure false := by rfl) (hw : swappedStores [tg] e X.env = pure none := by rfl)
    (h1 : (assignEach [tg] X.env).map (·.2) = [assign tg X.env] := by rfl) : DS X C W (.Assign [tg] e pos) (sAsg m g) := by
  refine ⟨PS.weak (ps_asg he.pe hg.pg hs hw h1) fun Dn σ H ⟨G, q⟩ => ⟨G, run_imp (srun_bind q) fun _ _ H1 G1 d g1 ⟨B, G0, a, r, q⟩ v hv => ?_⟩⟩
  cases e : g d a with
  | none => simp only [e] at q; exact q.elim
  | some a' =>
    simp only [e] at q
    exact hg.ok B G0 G1 H1 a a' σ v d _ r hv e fun σ' r' _ => q σ' H1 G1 .refl r'
/-- x = a new list, that x will change -/
def sOwn {α : Type} (s : α → Slot) (m : M α) (i : Nat) : MS := sBind m fun x a => .nx (a.set i (s x))
theorem d_own {α : Type} {s : α → Slot} {e : Expr} {x : Str} {i : Nat} {m : M α} {p2 : Pos} (he : DF X C W s e m) (hN : X.N.Nodup) (hi : X.N[i]? = some x := by rfl) (hx : Loc X.env.scope x := by first | exact Or.inl rfl | exact Or.inr rfl) (hf : X.fn x = true ∨ X.env.scope.names.lookup x = some .local := by first | exact .inl rfl | exact .inr rfl | assumption)
    (hs : swapsWithSole [.Name x p2] e pos.line X.env = pure false := by rfl) (hw : swappedStores [.Name x p2] e X.env = pure none := by rfl)
    (h1 : (assignEach [.Name x p2] X.env).map (·.2) = [assign (.Name x p2) X.env] := by rfl) : DS X C W (.Assign [.Name x p2] e pos) (sOwn s m i) :=
  ⟨PS.weak (ps_asg he.pe (pg_name hN hi hx hf) hs hw h1) fun Dn σ H ⟨G, q⟩ => ⟨G, by
    obtain ⟨B, G0, a, r, h⟩ := q
    refine ⟨B, G0, a, r, ?_⟩
    unfold sOwn sBind at h
    cases e : m a with
    | ok x a1 =>
      rw [e] at h
      intro H' G' g1 r1 p o H2 hp ho hG hB hl ex
      exact h _ _ _ g1 ((r1.ext ex).setOwn hp ho hG hB hl)
    | exc c a1 => rw [e] at h; exact fun H' G' g r' => h σ H' G' g r'
    | bad => rw [e] at h; exact h⟩⟩
end
end DL
end
section
set_option Elab.async false
set_option linter.all false
set_option maxRecDepth 100000
namespace DL
open PySem PySem.Spec PyProof.Rows L2
section
variable {X : Cx} {C : Cf} {W : WX} {pos : Pos}
/-! ### what is walked -/
structure WalkD (C : Cf) (J : It) (ds : List D) (G : Hp) : Prop where
  goes : ∀ i H1 G1, i < ds.length → Grow C G G1 → Sub C G1 H1 → J.go i H1
  stops : ∀ H1 G1, Grow C G G1 → Sub C G1 H1 → J.stop ds.length H1
  yields : ∀ i H1 G1 x H2, i < ds.length → Grow C G G1 → Sub C G1 H1 → J.yld i H1 x H2 → ∃ G2 d, ds[i]? = some d ∧ Has C G2 x d ∧ Ext C G1 H1 G2 H2
def tI (C : Cf) (W : WX) (m : M (List D)) : TI := fun σ H R => ∃ G, run C W m σ H G (fun _ _ H' G' ds => ∀ J, WalkD C J ds G' → R J H')
structure DI (X : Cx) (C : Cf) (W : WX) (tg iter : Expr) (m : M (List D)) : Prop where
  ex : ∃ wi : TI, PI X tg iter wi ∧ ∀ σ H R, tI C W m σ H R → wi σ H R

/-! ### for -/
def forD (g : Tg) (body : MS) : List D → MS
  | [], a => .nx a
  | d :: ds, a => match g d a with
    | none => .bad
    | some a1 => match body a1 with
      | .nx a' => forD g body ds a'
      | .ct a' => forD g body ds a'
      | .brk a' => .nx a'
      | r => r
def sFor (mi : M (List D)) (g : Tg) (body : MS) : MS := sBind mi fun ds => forD g body ds
theorem drop_get {α : Type} {l : List α} {i : Nat} {d : α} (h : l[i]? = some d) : l.drop i = d :: l.drop (i + 1) := by
  obtain ⟨h1, h2⟩ := List.getElem?_eq_some_iff.mp h
  rw [← h2]
  exact List.drop_eq_getElem_cons h1
theorem d_for {tg iter : Expr} {body : List Stmt} {mi : M (List D)} {t : TG} {g : Tg} {ix : List Nat} {mb : MS} (hp : PassesOwn (model X.prog X.w) X.A X.env X.xe) (hc : X.calm = true) (hi : DI X C W tg iter mi) (hg : DG X C tg t g ix) (hb : DSs X C W body mb)
    (hs : ∀ x, foldedSetIterable iter X.env x = pure x := by intro _; rfl) : DS X C W (.For tg iter body [] pos) (sFor mi g mb) := by
  obtain ⟨wi, i1, i2⟩ := hi.ex
  refine ⟨PS.weak (ps_for hp hc i1 hg.pg hb.pss hs) fun Dn σ H ⟨G, q⟩ => i2 σ H _ ⟨G, run_imp (srun_bind q) fun _ _ H1 G1 ds g1 ⟨B, G0, a, r, q⟩ J wd => ?_⟩⟩
  refine ⟨fun i m σ H => m = ds.length - i ∧ i ≤ ds.length ∧ ∃ a G, Grow C G1 G ∧ Rel C B G0 a σ H G ∧ ends C W Dn B G0 σ G (forD g mb (ds.drop i) a), ⟨ds.length, by simp, Nat.zero_le _, a, G1, .refl, r, q⟩, ?_⟩
  rintro i m σ H ⟨rfl, hi, a, G, g2, r, q⟩
  by_cases hlt : i < ds.length
  · refine .inr ⟨wd.goes i H G hlt g2 r.gh, fun σ' H' => ∃ a G, Grow C G1 G ∧ Rel C B G0 a σ' H' G ∧ ends C W Dn B G0 σ' G (forD g mb (ds.drop (i + 1)) a), fun σ' H' ⟨a', G', h1, h2, h3⟩ => ⟨ds.length - (i + 1), by omega, rfl, hlt, a', G', h1, h2, h3⟩, fun x H2 y => ?_⟩
    obtain ⟨G2, d, e, hx, ex⟩ := wd.yields i H G x H2 hlt g2 r.gh y
    rw [drop_get e] at q
    unfold forD at q
    cases eg : g d a with
    | none => rw [eg] at q; exact q.elim
    | some a1 =>
      rw [eg] at q
      simp only at q
      refine hg.ok B G0 G2 H2 a a1 σ x d _ (r.ext ex) hx eg fun σ2 r2 _ => ⟨G2, B, G0, a1, r2, ?_⟩
      have g3 := g2.trans ex.gg
      cases eb : mb a1 with
      | nx a' => rw [eb] at q; exact fun σ' H' G' g' r' => ⟨a', G', g3.trans g', r', q.imp (ex.gg.trans g') (fun _ _ z => z) (fun _ _ z => z) (fun _ _ z => z) fun _ _ z => z⟩
      | ct a' => rw [eb] at q; exact fun σ' H' G' g' r' => ⟨a', G', g3.trans g', r', q.imp (ex.gg.trans g') (fun _ _ z => z) (fun _ _ z => z) (fun _ _ z => z) fun _ _ z => z⟩
      | brk a' => rw [eb] at q; exact fun σ' H' G' g' r' => q σ' H' G' (ex.gg.trans g') r'
      | ret d a' => rw [eb] at q; exact fun v σ' H' G' g' r' hv => q v σ' H' G' (ex.gg.trans g') r' hv
      | exc c a' => rw [eb] at q; exact fun σ' H' G' g' r' => q σ' H' G' (ex.gg.trans g') r'
      | bad => rw [eb] at q; exact q
  · have e : i = ds.length := by omega
    subst e
    rw [List.drop_length] at q
    exact .inl ⟨wd.stops H G g2 r.gh, q σ H G .refl r⟩

/-! ### while -/
def whileD (t : M Bool) (body : MS) : Nat → MS
  | 0, _ => .bad
  | n + 1, a => match t a with
    | .ok false a1 => .nx a1
    | .ok true a1 => (match body a1 with
      | .nx a' => whileD t body n a'
      | .ct a' => whileD t body n a'
      | .brk a' => .nx a'
      | r => r)
    | .exc c a1 => .exc c a1
    | .bad => .bad
theorem d_while {c : Expr} {body : List Stmt} {t : M Bool} {mb : MS} (n : Nat) (hp : PassesOwn (model X.prog X.w) X.A X.env X.xe) (hc : DT X C W c t) (hb : DSs X C W body mb) : DS X C W (.While c body [] pos) (whileD t mb n) := by
  refine ⟨PS.weak (ps_while hp hc.pt hb.pss) fun Dn σ H ⟨G1, B, G0, a, r, q⟩ => ?_⟩
  refine ⟨fun m σ H => ∃ a G, Grow C G1 G ∧ Rel C B G0 a σ H G ∧ ends C W Dn B G0 σ G (whileD t mb m a), ⟨n, a, G1, .refl, r, q⟩, ?_⟩
  rintro m σ H ⟨a, G, g1, r, q⟩
  cases m with
  | zero => exact q.elim
  | succ m =>
    refine ⟨G, B, G0, a, r, ?_⟩
    unfold whileD at q
    cases et : t a with
    | bad => rw [et] at q; exact q
    | exc c a1 => rw [et] at q; exact fun H' G' g r' => q σ H' G' g r'
    | ok b a1 =>
      rw [et] at q
      intro H1 G2 g2 r2
      cases b with
      | false => rw [if_neg Bool.false_ne_true]; exact q σ H1 G2 g2 r2
      | true =>
        rw [if_pos rfl]
        simp only at q
        refine ⟨fun σ' H' => ∃ a G, Grow C G1 G ∧ Rel C B G0 a σ' H' G ∧ ends C W Dn B G0 σ' G (whileD t mb m a), fun σ' H' h => ⟨m, Nat.lt_succ_self m, h⟩, G2, B, G0, a1, r2, ?_⟩
        have g3 := g1.trans g2
        cases eb : mb a1 with
        | nx a' => rw [eb] at q; exact fun σ' H' G' g' r' => ⟨a', G', g3.trans g', r', q.imp (g2.trans g') (fun _ _ z => z) (fun _ _ z => z) (fun _ _ z => z) fun _ _ z => z⟩
        | ct a' => rw [eb] at q; exact fun σ' H' G' g' r' => ⟨a', G', g3.trans g', r', q.imp (g2.trans g') (fun _ _ z => z) (fun _ _ z => z) (fun _ _ z => z) fun _ _ z => z⟩
        | brk a' => rw [eb] at q; exact fun σ' H' G' g' r' => q σ' H' G' (g2.trans g') r'
        | ret d a' => rw [eb] at q; exact fun v σ' H' G' g' r' hv => q v σ' H' G' (g2.trans g') r' hv
        | exc c a' => rw [eb] at q; exact fun σ' H' G' g' r' => q σ' H' G' (g2.trans g') r'
        | bad => rw [eb] at q; exact q

/-! ### a def's promise, calls -/
inductive RV where
  | ok (d : D) | exc (c : Nat) | bad
abbrev Fn := List D → RV
def spD (C : Cf) (F : Fn) : Sp := fun vs H Q E => ∃ ds G, Sub C G H ∧ HasAll C G vs ds ∧ match F ds with
  | .ok d => ∀ v H' G', Ext C G H G' H' → Has C G' v d → Q v H'
  | .exc c => ∀ H' G', Ext C G H G' H' → E (.ref (C.xa c)) none H'
  | .bad => False
def mkF (n N : Nat) (body : MS) : Fn := fun ds => if ds.length = n then (match body (ds.map Slot.val ++ List.replicate (N - n) Slot.no) with
  | .nx _ => .ok .non
  | .ret d _ => .ok d
  | .exc c _ => .exc c
  | _ => .bad) else .bad
def eCall (F : Fn) (m : M (List D)) : M D := m.bind fun ds a => match F ds with
  | .ok d => .ok d a
  | .exc c => .exc c a
  | .bad => .bad
/-- a def of the text, by its name -/
structure Dfn (P : Program) (w : World) (K : PySem.W.Frag) (mg : Str → Option Value) (base : Heap) (C : Cf) (x : Str) (ps : List Str) (k : Nat) (F : Fn) : Prop where
  ex : ∃ f fd, mg x = some (.ref f) ∧ PySem.W.keepIn K (.ref f) = true ∧ Binds K fd ps [] ∧ FnOk P w K mg base (L2.CX P w) k f fd ps (spD C F)
theorem Dfn.mono {P : Program} {w : World} {K : PySem.W.Frag} {mg : Str → Option Value} {base : Heap} {x : Str} {ps : List Str} {j k : Nat} {F : Fn} (h : Dfn P w K mg base C x ps j F) (hk : j ≤ k) : Dfn P w K mg base C x ps k F := by
  obtain ⟨f, fd, h1, h2, h3, h4⟩ := h.ex
  exact ⟨f, fd, h1, h2, h3, h4.mono hk⟩
theorem run_call {F : Fn} {σ : DL.St} {H G : Hp} {ds : List D} {vs : List V} {Q : VK} (hv : HasAll C G vs ds)
    (q : run C W (fun a => match F ds with
      | .ok d => R.ok d a
      | .exc c => R.exc c a
      | .bad => R.bad) σ H G (kD C Q)) : spD C F vs H Q (WE W σ) := by
  obtain ⟨B, G0, a, r, q⟩ := q
  refine ⟨ds, G, r.gh, hv, ?_⟩
  cases e : F ds with
  | ok d => rw [e] at q; exact fun v H' G' ex h => q H' G' ex.gg (r.ext ex) v h
  | exc c => rw [e] at q; exact fun H' G' ex => q H' G' ex.gg (r.ext ex)
  | bad => rw [e] at q; exact q
theorem d_call {e : Expr} {es : List Expr} {x : Str} {ps : List Str} {k : Nat} {F : Fn} {m : M (List D)} {p : Pos} (f : Dfn X.prog X.w X.K X.mg X.base C x ps k F) (hr : Room k X.A) (tk : Takes X W) (ha : DA X C W (e :: es) m) (hg : Gl X x := by rfl)
    (hdb : (x == ("__debug__" : Str)) = false := by decide) (he : starEach (e :: es) X.env = (false, eval e X.env) :: starEach es X.env := by rfl) (hpl : (backTo pos (starEach es X.env)).any (·.1) = false := by rfl) :
    DE X C W (.Call (.Name x p) (e :: es) [] pos) (eCall F m) := by
  obtain ⟨f, fd, h1, h2, h3, h4⟩ := f.ex
  exact ⟨PE.weak (pe_callS h4 hr hg h1 h2 h3 (fun σ => passAt tk σ) ha.pa hdb he hpl) fun σ H Q ⟨G, q⟩ => ⟨G, run_imp (run_bind q) fun _ _ H1 G1 ds g q vs hvs => run_call hvs q⟩⟩

theorem HasAll.vals {C : Cf} {G H : Hp} : ∀ {vs : List V} {ds : List D} (n i : Nat) (s : Slot), HasAll C G vs ds → (ds.map Slot.val ++ List.replicate n Slot.no)[i]? = some s → SlotOk C H H G s (vs.map some ++ List.replicate n none)[i]?
  | _, _, n, i, s, .nil, h => by
    simp only [List.map_nil, List.nil_append] at h ⊢
    rw [List.getElem?_replicate] at h
    split at h
    · cases h; trivial
    · cases h
  | _, _, n, 0, s, .cons h1 _, h => by
    simp at h
    subst h
    exact ⟨_, by simp, h1⟩
  | _, _, n, i + 1, s, .cons _ r, h => by
    simp only [List.map_cons, List.cons_append, List.getElem?_cons_succ] at h ⊢
    exact HasAll.vals n i s r h
theorem rel_start {H G : Hp} {vs : List V} {ds : List D} {N : List Str} (s : Sub C G H) (hv : HasAll C G vs ds) : Rel C H G (ds.map Slot.val ++ List.replicate (N.length - ds.length) Slot.no) (L2.start N vs) H G where
  gg := .refl
  gh := s
  bh := .refl
  new := fun p _ _ _ h => h
  len := by unfold L2.start; simp [hv.length]
  slot := fun i t h => by unfold L2.start; rw [hv.length]; exact HasAll.vals _ i t hv h
  sep := fun i j s t p h1 _ o _ _ _ => by
    have z : ∀ {l : List D} {n i : Nat} {s : Slot}, (l.map Slot.val ++ List.replicate n Slot.no)[i]? = some s → isOwn s = true → False := fun {l n i s} h o => by
      have m := List.mem_of_getElem? h
      rcases List.mem_append.mp m with m | m
      · obtain ⟨d, _, rfl⟩ := List.mem_map.mp m; cases o
      · cases (List.eq_of_mem_replicate m); cases o
    exact (z h1 o).elim
/-- THE RULE for a def -/
theorem d_fn {P : Program} {w : World} {K : PySem.W.Frag} {mg : Str → Option Value} {base : Heap} {x qual : Str} {st : Stmt} {f : Addr} {fd : FuncData} {N ps : List Str} {k : Nat} {m : MS} (F : Fun K x qual st f fd) (S : FnScope N ps (defScope st))
    (hbody : ∀ (cdv : Value) (A : Around) (outer : List Env) (s : Shared) (H : Hp) (E : XK), Room k (A.deeper (envOfC qual (defScope st) s.heap.objs.size f cdv)) → Takes (cxOf (L2.CX P w) P w K mg base N qual (defScope st) f cdv A outer s H E) (fun cls d _ H => E cls d H) →
      PassesOwn (model P w) (A.deeper (envOfC qual (defScope st) s.heap.objs.size f cdv)) (envOfC qual (defScope st) s.heap.objs.size f cdv) (cxOf (L2.CX P w) P w K mg base N qual (defScope st) f cdv A outer s H E).xe →
      DSs (cxOf (L2.CX P w) P w K mg base N qual (defScope st) f cdv A outer s H E) C (fun cls d _ H => E cls d H) (defBody st) m) : FnOk P w K mg base (L2.CX P w) (k + 1) f fd ps (spD C (mkF ps.length N.length m)) := by
  refine F.okX S (fun vs H Q E h => ?_) (fun cdv A outer s H vs Q E hr h => ?_)
  · obtain ⟨ds, G, s, hv, h⟩ := h
    unfold mkF at h
    split at h
    · rename_i e
      split at e
      · rw [hv.length]; assumption
      · cases e
    · rename_i e
      split at e
      · rw [hv.length]; assumption
      · cases e
    · exact h.elim
  · obtain ⟨ds, G, sb, hv, h⟩ := h
    refine ⟨_, (hbody cdv A outer s H E hr (takes_of rfl rfl rfl rfl) (passes_of (X := cxOf (L2.CX P w) P w K mg base N qual (defScope st) f cdv A outer s H E) rfl)).pss, G, H, G, _, rel_start sb hv, ?_⟩
    have e : ∀ {B0 B1 Ge He : Hp} {a' : AS} {σ' : DL.St}, Rel C H G a' σ' He Ge → Grow C G Ge → Ext C G H Ge He := fun r g => ⟨g, r.gh, r.bh, r.new⟩
    unfold mkF at h
    split at h
    · rename_i e1
      split at e1
      · rename_i hl
        rw [← hl] at e1
        split at e1
        · rename_i a eb
          cases e1
          rw [eb]
          exact fun σ' H' G' g r => h _ H' G' (e (B0 := H) (B1 := H) r g) .non
        · rename_i d a eb
          cases e1
          rw [eb]
          exact fun v σ' H' G' g r hv => h v H' G' (e (B0 := H) (B1 := H) r g) hv
        · cases e1
        · cases e1
      · cases e1
    · rename_i e1
      split at e1
      · rename_i hl
        rw [← hl] at e1
        split at e1
        · cases e1
        · cases e1
        · rename_i c a eb
          cases e1
          rw [eb]
          exact fun σ' H' G' g r => h H' G' (e (B0 := H) (B1 := H) r g)
        · cases e1
      · cases e1
    · exact h.elim
end
end DL
end
section
set_option Elab.async false
set_option linter.all false
set_option maxRecDepth 100000
namespace DL
open PySem PySem.Spec PyProof.Rows L2
/-! ### comprehensions -/
def wipeA (a : AS) : List Nat → AS
  | [] => a
  | v :: vs => (wipeA a vs).set v .no
def back (a : AS) (v : Nat) : Slot := match a[v]? with
  | some (.val d) => .val d
  | _ => .no
def restA (a a' : AS) : List Nat → AS
  | [] => a'
  | v :: vs => (restA a a' vs).set v (back a v)
theorem wipeA_length (a : AS) : ∀ vs : List Nat, (wipeA a vs).length = a.length
  | [] => rfl
  | v :: vs => by unfold wipeA; rw [List.length_set, wipeA_length a vs]
theorem restA_length (a a' : AS) : ∀ vs : List Nat, (restA a a' vs).length = a'.length
  | [] => rfl
  | v :: vs => by unfold restA; rw [List.length_set, restA_length a a' vs]
theorem wipeA_get (a : AS) : ∀ (vs : List Nat) (j : Nat), (wipeA a vs)[j]? = if j ∈ vs ∧ j < a.length then some .no else a[j]?
  | [], j => by simp [wipeA]
  | v :: vs, j => by
    unfold wipeA
    by_cases e : v = j
    · subst e
      by_cases hl : v < a.length
      · rw [List.getElem?_set_self (by rw [wipeA_length]; exact hl), if_pos ⟨List.mem_cons_self, hl⟩]
      · rw [if_neg (fun z => hl z.2), List.getElem?_eq_none (by rw [List.length_set, wipeA_length]; omega), List.getElem?_eq_none (by omega)]
    · rw [List.getElem?_set_ne e, wipeA_get a vs j]
      by_cases h : j ∈ vs ∧ j < a.length
      · rw [if_pos h, if_pos ⟨List.mem_cons_of_mem _ h.1, h.2⟩]
      · rw [if_neg h, if_neg (fun z => h ⟨(List.mem_cons.mp z.1).resolve_left (fun w => e w.symm), z.2⟩)]
theorem restA_get (a a' : AS) : ∀ (vs : List Nat) (j : Nat), (restA a a' vs)[j]? = if j ∈ vs ∧ j < a'.length then some (back a j) else a'[j]?
  | [], j => by simp [restA]
  | v :: vs, j => by
    unfold restA
    by_cases e : v = j
    · subst e
      by_cases hl : v < a'.length
      · rw [List.getElem?_set_self (by rw [restA_length]; exact hl), if_pos ⟨List.mem_cons_self, hl⟩]
      · rw [if_neg (fun z => hl z.2), List.getElem?_eq_none (by rw [List.length_set, restA_length]; omega), List.getElem?_eq_none (by omega)]
    · rw [List.getElem?_set_ne e, restA_get a a' vs j]
      by_cases h : j ∈ vs ∧ j < a'.length
      · rw [if_pos h, if_pos ⟨List.mem_cons_of_mem _ h.1, h.2⟩]
      · rw [if_neg h, if_neg (fun z => h ⟨(List.mem_cons.mp z.1).resolve_left (fun w => e w.symm), z.2⟩)]
section
variable {C : Cf} {B G0 H G : Hp} {a a' : AS} {σ : DL.St}
theorem Rel.wipe (r : Rel C B G0 a σ H G) : ∀ vs : List Nat, Rel C B G0 (wipeA a vs) (L2.wipe σ vs) H G
  | [] => r
  | v :: vs => (Rel.wipe r vs).noσ
theorem Rel.rest {vs : List Nat} (r : Rel C B G0 (wipeA a' vs) (L2.wipe σ vs) H G) (h : ∀ (v : Nat) (d : D), a[v]? = some (.val d) → ∃ u, σ[v]? = some (some u) ∧ Has C G u d) : Rel C B G0 (restA a a' vs) σ H G where
  gg := r.gg
  gh := r.gh
  bh := r.bh
  new := r.new
  len := by rw [restA_length, ← wipeA_length a' vs, r.len, wipe_length]
  slot := fun i s e => by
    rw [restA_get] at e
    split at e
    · cases e
      unfold back
      split
      · rename_i d q
        obtain ⟨u, h1, h2⟩ := h i d q
        exact ⟨u, h1, h2⟩
      · trivial
    · rename_i n
      have hi : i < a'.length := (List.getElem?_eq_some_iff.mp e).1
      have nv : i ∉ vs := fun z => n ⟨z, hi⟩
      have q := r.slot i s (by rw [wipeA_get, if_neg n]; exact e)
      rw [wipe_get, if_neg (fun z => nv z.1)] at q
      exact q
  sep := fun i j s t p hs ht os ot e1 e2 => by
    have out : ∀ {m : Nat} {u : Slot}, (restA a a' vs)[m]? = some u → isOwn u = true → m ∉ vs ∧ (wipeA a' vs)[m]? = some u ∧ (L2.wipe σ vs)[m]? = σ[m]? := fun {m u} hu ou => by
      rw [restA_get] at hu
      split at hu
      · cases hu
        unfold back at ou
        split at ou <;> cases ou
      · rename_i n
        have hi : m < a'.length := (List.getElem?_eq_some_iff.mp hu).1
        have nv : m ∉ vs := fun z => n ⟨z, hi⟩
        exact ⟨nv, by rw [wipeA_get, if_neg n]; exact hu, by rw [wipe_get, if_neg (fun z => nv z.1)]⟩
    obtain ⟨_, w1, w2⟩ := out hs os
    obtain ⟨_, w3, w4⟩ := out ht ot
    exact r.sep i j s t p w1 w3 os ot (w2.trans e1) (w4.trans e2)
theorem SlotOk.re {B' H' G' : Hp} {s : Slot} {x : Option (Option V)} (h : SlotOk C B H G s x) (g : Grow C G G') (hn : ∀ p o, x = some (some (.ref p)) → isOwn s = true → H p = some o → G p = none → B p = none → H' p = some o ∧ B' p = none ∧ G' p = none) : SlotOk C B' H' G' s x := by
  by_cases ow : isOwn s = true
  · obtain ⟨p, o, e, h1, h2, h3, h4⟩ := (SlotOk.own ow).mp h
    obtain ⟨q1, q2, q3⟩ := hn p o e ow h1 h3 h4
    exact (SlotOk.own ow).mpr ⟨p, o, e, q1, h2.mono g, q3, q2⟩
  · cases s with
    | no => trivial
    | val d => obtain ⟨v, e', w⟩ := h; exact ⟨v, e', w.mono g⟩
    | own _ => exact absurd rfl ow
    | dK _ => exact absurd rfl ow
    | dT _ => exact absurd rfl ow
theorem mr_upd {p : Addr} {o : HO} {q : Addr} {k : Nat} {d : D} (hl : loose o = true) (h : C.mr (upd B p o) q k d) : C.mr B q k d :=
  C.mono _ _ q k d (fun b u hb hu _ => by
    have z : b ≠ p := fun z => by subst z; rw [upd_same] at hb; cases hb; rw [hl] at hu; cases hu
    rw [upd_ne z] at hb; exact hb) h
theorem upd_mr {p : Addr} {o u : HO} {q : Addr} {k : Nat} {d : D} (hp : H p = some u) (hl : loose u = true) (h : C.mr H q k d) : C.mr (upd H p o) q k d :=
  C.mono _ _ q k d (fun b u hb hu _ => by
    have z : b ≠ p := fun z => by subst z; rw [hp] at hb; cases hb; rw [hl] at hu; cases hu
    rw [upd_ne z]; exact hb) h
/-- an object that nobody owns is kept as part of what was there -/
theorem Rel.hold {p : Addr} {o : HO} (r : Rel C B G0 a σ H G) (hp : H p = some o) (hl : loose o = true) (hx : isExt o = false) (hG : G p = none) (hB : B p = none) (l : Lone a σ p) : Rel C (upd B p o) G0 a σ H G where
  gg := r.gg
  gh := r.gh
  bh := ⟨fun q u e x => by
      by_cases z : q = p
      · subst z; rw [upd_same] at e; cases e; exact hp
      · rw [upd_ne z] at e; exact r.bh.keep q u e x, fun q e => by
      by_cases z : q = p
      · subst z; rw [hp]; exact fun z => nomatch z
      · rw [upd_ne z] at e; exact r.bh.stay q e, fun q k d e => r.bh.mem q k d (mr_upd hl e)⟩
  new := fun q x h1 hk h2 => by
    by_cases z : q = p
    · subst z; exact hG
    · rw [upd_ne z] at h1; exact r.new q x h1 hk h2
  len := r.len
  slot := fun i s e => (r.slot i s e).re .refl fun q u hx ow h1 h2 h3 => ⟨h1, by rw [upd_ne fun z => l i s e ow (by rw [hx, z])]; exact h3, h2⟩
  sep := r.sep
/-- the kept object is changed -/
theorem Rel.swap {p : Addr} {o o' : HO} (r : Rel C (upd B p o) G0 a σ H G) (hl : loose o = true) (hx : isExt o = false) (hl' : loose o' = true) (hG : G p = none) (hB : B p = none) : Rel C (upd B p o') G0 a σ (upd H p o') G := by
  have hp : H p = some o := r.bh.keep p o upd_same hx
  have np : ∀ (i : Nat) (s : Slot), a[i]? = some s → isOwn s = true → σ[i]? ≠ some (some (.ref p)) := fun i s e ow x => by
    obtain ⟨q, u, e', _, _, _, h4⟩ := (SlotOk.own ow).mp (r.slot i s e)
    rw [x] at e'; cases e'; rw [upd_same] at h4; cases h4
  exact { gg := r.gg
          gh := r.gh.keep fun q x hq e => by rw [upd_ne (fun z => hq (by rw [z]; exact hG))]; exact e
          bh := ⟨fun q u e x => by
              by_cases z : q = p
              · subst z; rw [upd_same] at e ⊢; exact e
              · rw [upd_ne z] at e ⊢; exact r.bh.keep q u (by rw [upd_ne z]; exact e) x, fun q e => by
              by_cases z : q = p
              · subst z; rw [upd_same]; exact fun z => nomatch z
              · rw [upd_ne z] at e ⊢; exact r.bh.stay q (by rw [upd_ne z]; exact e), fun q k d e => upd_mr hp hl (r.bh.mem q k d (by
              have e1 := mr_upd (B := B) hl' e
              exact C.mono B _ q k d (fun b u hb _ _ => by rw [upd_ne (ne_of_none hb hB)]; exact hb) e1))⟩
          new := fun q x h1 hk h2 => by
            by_cases z : q = p
            · subst z; exact hG
            · rw [upd_ne z] at h1; exact r.new q x (by rw [upd_ne z]; exact h1) hk h2
          len := r.len
          slot := fun i s e => (r.slot i s e).re .refl fun q u hx ow h1 h2 h3 => by
            have z : q ≠ p := fun z => np i s e ow (by rw [hx, z])
            exact ⟨by rw [upd_ne z]; exact h1, by rw [upd_ne z] at h3 ⊢; exact h3, h2⟩
          sep := r.sep }
/-- the kept object is frozen -/
theorem Rel.out {p : Addr} {o : HO} (r : Rel C (upd B p o) G0 a σ H G) (hl : loose o = true) (hx : isExt o = false) (hG : G p = none) (hB : B p = none) : Rel C B G0 a σ H (upd G p o) ∧ Grow C G (upd G p o) := by
  have hp : H p = some o := r.bh.keep p o upd_same hx
  have g : Grow C G (upd G p o) := .new hG
  refine ⟨⟨r.gg.trans g, r.gh.add hG hp (by cases o <;> first | rfl | cases hl) fun q x _ e => e, ⟨fun q u e x => ?_, fun q e => ?_, fun q k d e => ?_⟩, fun q x h1 hk h2 => ?_, r.len, fun i s e => (r.slot i s e).re g fun q u hx ow h1 h2 h3 => ?_, r.sep⟩, g⟩
  · exact r.bh.keep q u (by rw [upd_ne (ne_of_none e hB)]; exact e) x
  · by_cases z : q = p
    · subst z; rw [hp]; exact fun z => nomatch z
    · exact r.bh.stay q (by rw [upd_ne z]; exact e)
  · exact r.bh.mem q k d (C.mono B _ q k d (fun b u hb _ _ => by rw [upd_ne (ne_of_none hb hB)]; exact hb) e)
  · by_cases z : q = p
    · subst z; rw [hB] at h1; cases h1
    · rw [upd_ne z]; exact r.new q x (by rw [upd_ne z]; exact h1) hk h2
  · have z : q ≠ p := fun z => by subst z; rw [upd_same] at h3; cases h3
    exact ⟨h1, by rw [upd_ne z] at h3; exact h3, by rw [upd_ne z]; exact h2⟩
end
end DL
end
section
set_option Elab.async false
set_option linter.all false
set_option maxRecDepth 100000
namespace DL
open PySem PySem.Spec PyProof.Rows L2
abbrev WF : WX := fun _ _ _ _ => False
structure DTs (X : Cx) (C : Cf) (W : WX) (ifs : List Expr) (m : M Bool) : Prop where
  pts : PTs X ifs (tDB C W m)
def cmpD (vs : List Nat) (g : Tg) (t : M Bool) (e : M D) : List D → M (List D)
  | [], a => .ok [] a
  | d :: ds, a => match g d (wipeA a vs) with
    | none => .bad
    | some a1 => match t a1 with
      | .ok true a2 => (match e a2 with
        | .ok x a3 => (match cmpD vs g t e ds a3 with
          | .ok xs a4 => .ok (x :: xs) a4
          | _ => .bad)
        | _ => .bad)
      | .ok false a2 => cmpD vs g t e ds a2
      | _ => .bad
def eLC (vs : List Nat) (mi : M (List D)) (g : Tg) (t : M Bool) (e : M D) : M D := mi.bind fun ds a => if sz ds.length = true then (match cmpD vs g t e ds a with
  | .ok xs a' => .ok (.lst xs) (restA a a' vs)
  | _ => .bad) else .bad
section
variable {X : Cx} {C : Cf} {W : WX} {pos : Pos}
theorem dts_nil : DTs X C W [] (M.pure true) := ⟨⟨fun pins s σ H Q I h => by
  obtain ⟨G, q⟩ := h
  obtain ⟨B, G0, a, r, q⟩ := run_pure q
  exact pts_nil.run pins s σ H Q I (q H G .refl r)⟩⟩
theorem dts_one {c : Expr} {m : M Bool} (h : DT X C W c m) : DTs X C W [c] m := ⟨pts_one h.pt⟩
theorem lc_ok {wi : TI} {g : TG} {gd : Tg} {vs : List Nat} {mi : M (List D)} {mt : M Bool} {me : M D} {σ : DL.St} {H : Hp} {Q : VK} (hwi : ∀ σ H R, tI C W mi σ H R → wi σ H R) (hg : TGok C g gd vs)
    (q : tD C W (eLC vs mi gd mt me) σ H Q) : tLc wi g (tDB C WF mt) (tD C WF me) vs σ H Q := by
  obtain ⟨G, q⟩ := q
  refine hwi σ H _ ⟨G, run_imp (run_bind q) fun _ _ H1 G1 ds g1 q J wd => ?_⟩
  obtain ⟨B, G0, a0, r0, q⟩ := q
  dsimp only at q
  intro Dd nD
  -- the run of the whole
  have hz : sz ds.length = true := by
    cases e : sz ds.length with
    | true => rfl
    | false => rw [e, if_neg Bool.false_ne_true] at q; exact q.elim
  rw [if_pos hz] at q
  obtain ⟨xs, a', ec, K⟩ : ∃ xs a', cmpD vs gd mt me ds a0 = .ok xs a' ∧ ∀ H' G', Grow C G1 G' → Rel C B G0 (restA a0 a' vs) σ H' G' → ∀ v, Has C G' v (.lst xs) → Q v H' := by
    cases e : cmpD vs gd mt me ds a0 with
    | ok xs a' => rw [e] at q; exact ⟨xs, a', rfl, q⟩
    | exc c a' => rw [e] at q; exact q.elim
    | bad => rw [e] at q; exact q.elim
  have eD : Ext C G1 H1 G1 (upd H1 Dd (.lst [])) := .laid r0.gh nD
  have r1 : Rel C (upd B Dd (.lst [])) G0 a0 σ (upd H1 Dd (.lst [])) G1 := (r0.ext eD).hold upd_same rfl rfl (r0.gh.free nD) (r0.bh.free nD) (r0.lone nD)
  have nB : B Dd = none := r0.bh.free nD
  refine ⟨fun i m H2 => m = ds.length - i ∧ i ≤ ds.length ∧ ∃ a G2 acc accD ys, Grow C G1 G2 ∧ Rel C (upd B Dd (.lst acc)) G0 (wipeA a vs) (L2.wipe σ vs) H2 G2 ∧ HasAll C G2 acc accD ∧ acc.length ≤ i ∧ cmpD vs gd mt me (ds.drop i) a = .ok ys a' ∧ accD ++ ys = xs,
    ⟨ds.length, by simp, Nat.zero_le _, a0, G1, [], [], xs, .refl, r1.wipe vs, .nil, Nat.zero_le _, ec, rfl⟩, ?_⟩
  rintro i m H2 ⟨rfl, hi, a, G2, acc, accD, ys, g2, r2, hacc, hl, ec, ex⟩
  have nG : G2 Dd = none := r2.new Dd _ upd_same rfl ((r0.gg).free (r0.gh.free nD))
  have hD : H2 Dd = some (.lst acc) := r2.bh.keep _ _ upd_same rfl
  by_cases hlt : i < ds.length
  · refine .inr ⟨wd.goes i H2 G2 hlt g2 r2.gh, fun H' => ∃ a G2 acc accD ys, Grow C G1 G2 ∧ Rel C (upd B Dd (.lst acc)) G0 (wipeA a vs) (L2.wipe σ vs) H' G2 ∧ HasAll C G2 acc accD ∧ acc.length ≤ i + 1 ∧ cmpD vs gd mt me (ds.drop (i + 1)) a = .ok ys a' ∧ accD ++ ys = xs,
      fun H' h => ⟨ds.length - (i + 1), by omega, rfl, hlt, h⟩, fun x H3 y => ?_⟩
    obtain ⟨G3, d, e, hx, ext⟩ := wd.yields i H2 G2 x H3 hlt g2 r2.gh y
    rw [drop_get e] at ec
    unfold cmpD at ec
    cases eg : gd d (wipeA a vs) with
    | none => rw [eg] at ec; cases ec
    | some a1 =>
      rw [eg] at ec
      simp only at ec
      refine hg _ G0 G3 H3 (wipeA a vs) a1 (L2.wipe σ vs) x d _ (r2.ext ext) hx eg fun σ2 r3 w2 => ?_
      have w2 := w2 vs fun i hi => hi
      have ww : L2.wipe (L2.wipe σ vs) vs = L2.wipe σ vs := by
        refine List.ext_getElem? fun j => ?_
        rw [wipe_get, wipe_get, wipe_length]
        by_cases e : j ∈ vs ∧ j < σ.length
        · rw [if_pos e, if_pos e]
        · rw [if_neg e, if_neg e]
      rw [ww] at w2
      refine ⟨w2, G3, _, G0, a1, r3, ?_⟩
      have g3 := g2.trans ext.gg
      cases et : mt a1 with
      | exc c a2 => rw [et] at ec; cases ec
      | bad => rw [et] at ec; cases ec
      | ok b a2 =>
        rw [et] at ec
        intro H4 G4 g4 r4
        cases b with
        | false =>
          rw [if_neg Bool.false_ne_true]
          refine ⟨a2, G4, acc, accD, ys, g3.trans g4, ?_, (hacc.mono ext.gg).mono g4, by omega, ec, ex⟩
          have := r4.wipe vs
          rw [w2] at this
          exact this
        | true =>
          rw [if_pos rfl]
          simp only at ec
          refine ⟨G4, _, G0, a2, r4, ?_⟩
          cases ee : me a2 with
          | exc c a3 => rw [ee] at ec; cases ec
          | bad => rw [ee] at ec; cases ec
          | ok z a3 =>
            rw [ee] at ec
            simp only at ec
            intro H5 G5 g5 r5 v hv
            have nG5 : G5 Dd = none := r5.new Dd _ upd_same rfl ((r0.gg).free (r0.gh.free nD))
            refine ⟨acc, r5.bh.keep _ _ upd_same rfl, ?_, ?_⟩
            · have := of_decide_eq_true hz
              rw [sizeLine_eq]; omega
            · cases er : cmpD vs gd mt me (ds.drop (i + 1)) a3 with
              | exc c a4 => rw [er] at ec; cases ec
              | bad => rw [er] at ec; cases ec
              | ok zs a4 =>
                rw [er] at ec
                simp only [R.ok.injEq] at ec
                obtain ⟨e1, e2⟩ := ec
                subst e2
                have r6 := (r5.swap (o' := .lst (acc ++ [v])) rfl rfl rfl nG5 nB).wipe vs
                rw [w2] at r6
                refine ⟨a3, G5, acc ++ [v], accD ++ [z], zs, (g3.trans g4).trans g5, r6, (((hacc.mono ext.gg).mono g4).mono g5).append (.cons hv .nil), by rw [List.length_append]; simp; omega, er, ?_⟩
                rw [List.append_assoc]
                rw [← ex, ← e1]
                rfl
  · have e : i = ds.length := by omega
    subst e
    rw [List.drop_length] at ec
    unfold cmpD at ec
    injection ec with ec1 ec2
    subst ec2
    rw [← ec1, List.append_nil] at ex
    subst ex
    refine .inl ⟨wd.stops H2 G2 g2 r2.gh, ?_⟩
    obtain ⟨r3, g3⟩ := r2.out rfl rfl nG nB
    have r4 : Rel C B G0 (restA a0 a vs) σ H2 (upd G2 Dd (.lst acc)) := r3.rest fun v d h => by
      obtain ⟨u, h1, h2⟩ := r0.slot v _ h
      exact ⟨u, h1, (h2.mono g2).mono g3⟩
    exact K H2 _ (g2.trans g3) r4 (.ref Dd) (.lst upd_same (hacc.mono g3))
theorem d_lc {elt tg iter : Expr} {ifs : List Expr} {scope : Scope} {own : List (Str × Nat)} {mi : M (List D)} {t : TG} {g : Tg} {ix : List Nat} {mt : M Bool} {me : M D} (hc : X.calm = true) (hN : X.N.Nodup) (hi : DI X C W tg iter mi) (ok : BlkOk X.N X.env.scope scope own)
    (hg : ∀ (s : Shared) (H : Hp) (Ca : Addr) (cl : List (Str × Addr)) (fp : List Addr), DG (X.blk s H scope (compEnvC scope cl Ca X.env) fp) C tg t g ix)
    (ht : ∀ (s : Shared) (H : Hp) (Ca : Addr) (cl : List (Str × Addr)) (fp : List Addr), DTs (X.blk s H scope (compEnvC scope cl Ca X.env) fp) C WF ifs mt)
    (he : ∀ (s : Shared) (H : Hp) (Ca : Addr) (cl : List (Str × Addr)) (fp : List Addr), DE (X.blk s H scope (compEnvC scope cl Ca X.env) fp) C WF elt me)
    (hix : ∀ i ∈ ix, i ∈ own.map (·.2) := by decide) (hs : ∀ x, foldedSetIterable iter X.env x = pure x := by intro _; rfl) :
    DE X C W (.ListComp elt [⟨tg, iter, ifs, 0⟩] scope pos) (eLC (own.map (·.2)) mi g mt me) := by
  obtain ⟨wi, i1, i2⟩ := hi.ex
  refine ⟨⟨fun pins s σ H Q I q => ?_⟩⟩
  have hok : TGok C t g (own.map (·.2)) := fun B G0 G H a a' σ v d Q r hv e q => (DG.ok (hg s H 0 [] [])) B G0 G H a a' σ v d Q r hv e fun σ' r' w => q σ' r' fun vs h => w vs fun i hi => h i (hix i hi)
  exact (PE.weak (pe_lc hc hN i1 ok (fun s H Ca cl fp => (hg s H Ca cl fp).pg) (fun s H Ca cl fp => (ht s H Ca cl fp).pts) (fun s H Ca cl fp => (he s H Ca cl fp).pe) hs) fun σ H Q q => lc_ok (C := C) (W := W) i2 hok q).run pins s σ H Q I q
/-- name = [..] on one line -/
theorem d_setLc {i : Nat} {y : Str} {py : Pos} {elt tg iter : Expr} {ifs : List Expr} {scope : Scope} {own : List (Str × Nat)} {spos : Pos} {mi : M (List D)} {t : TG} {g : Tg} {ix : List Nat} {mt : M Bool} {me : M D} (hc : X.calm = true) (hN : X.N.Nodup)
    (hy : X.N[i]? = some y) (hyl : X.env.scope.names.lookup y = some .local) (hsw : swapsWith (.ListComp elt [⟨tg, iter, ifs, 0⟩] scope pos) (some (.Name y py)) spos.line X.env = pure true) (hi : DI X C W tg iter mi) (ok : BlkOk X.N X.env.scope scope own)
    (hg : ∀ (s : Shared) (H : Hp) (Ca : Addr) (cl : List (Str × Addr)) (fp : List Addr), DG (X.blk s H scope (compEnvC scope cl Ca X.env) fp) C tg t g ix)
    (ht : ∀ (s : Shared) (H : Hp) (Ca : Addr) (cl : List (Str × Addr)) (fp : List Addr), DTs (X.blk s H scope (compEnvC scope cl Ca X.env) fp) C WF ifs mt)
    (he : ∀ (s : Shared) (H : Hp) (Ca : Addr) (cl : List (Str × Addr)) (fp : List Addr), DE (X.blk s H scope (compEnvC scope cl Ca X.env) fp) C WF elt me)
    (hix : ∀ i ∈ ix, i ∈ own.map (·.2) := by decide) (hs : ∀ x, foldedSetIterable iter X.env x = pure x := by intro _; rfl) :
    DS X C W (.Assign [.Name y py] (.ListComp elt [⟨tg, iter, ifs, 0⟩] scope pos) spos) (sAsg (eLC (own.map (·.2)) mi g mt me) (gN i)) := by
  obtain ⟨wi, i1, i2⟩ := hi.ex
  refine ⟨⟨fun pins s σ H Dn I q => ?_⟩⟩
  have hok : TGok C t g (own.map (·.2)) := fun B G0 G H a a' σ v d Q r hv e q => (DG.ok (hg s H 0 [] [])) B G0 G H a a' σ v d Q r hv e fun σ' r' w => q σ' r' fun vs h => w vs fun i hi => h i (hix i hi)
  refine (PS.weak (t' := tS C W (sAsg (eLC (own.map (·.2)) mi g mt me) (gN i))) (ps_setLc hc hN hy hyl hsw i1 ok (fun s H Ca cl fp => (hg s H Ca cl fp).pg) (fun s H Ca cl fp => (ht s H Ca cl fp).pts) (fun s H Ca cl fp => (he s H Ca cl fp).pe) hs) fun Dn σ H ⟨G, q⟩ => ?_).run pins s σ H Dn I q
  refine lc_ok (Q := fun x H1 => gName i x σ H1 Dn.nx) i2 hok ⟨G, run_imp (srun_bind q) fun _ _ H1 G1 d g1 ⟨B, G0, a, r, q⟩ v hv => ?_⟩
  exact q _ H1 G1 .refl (r.setVal hv)
end
end DL
end
section
set_option Elab.async false
set_option linter.all false
set_option maxRecDepth 100000
namespace DL
open PySem PySem.Spec PyProof.Rows L2
section
variable {C : Cf} {W : WX}
theorem op_done {o : Option D} {σ : DL.St} {H G : Hp} {Q : VK} (q : run C W (lft o) σ H G (kD C Q)) :
    ∃ d, o = some d ∧ (∀ v, Has C G v d → Q v H) ∧ (∀ p u, H p = none → isTag u = false → Has C (upd G p u) (.ref p) d → Q (.ref p) (upd H p u)) ∧ Sub C G H := by
  obtain ⟨d, e, B, G0, a, r, k⟩ := run_lft q
  exact ⟨d, e, fun v hv => k H G .refl r v hv, fun p u n ht hv => k _ _ (.new (r.gh.free n)) (r.alloc n ht) _ hv, r.gh⟩
/-! ### whole numbers -/
def i2 (f : Int → Int → D) : D → D → Option D
  | .int i, .int j => some (f i j)
  | _, _ => none
def i2c (c : Int → Int → Bool) (f : Int → Int → D) : D → D → Option D
  | .int i, .int j => if c i j = true then some (f i j) else none
  | _, _ => none
theorem o_i2 {g : Int → Int → V} {f : Int → Int → D} (h : ∀ G i j, Has C G (g i j) (f i j)) : Op2 C (rI0 g) (i2 f) := by
  intro W σ H G x y dx dy Q hx hy q
  obtain ⟨d, e, k, _⟩ := op_done q
  cases dx with
  | int i => cases dy with
    | int j => cases hx; cases hy; cases e; exact ⟨i, j, rfl, rfl, k _ (h G i j)⟩
    | _ => cases e
  | _ => cases e
theorem o_i2c {K : Int → Int → Prop} {c : Int → Int → Bool} {g : Int → Int → V} {f : Int → Int → D} (hc : ∀ i j, c i j = true → K i j) (h : ∀ G i j, Has C G (g i j) (f i j)) : Op2 C (rI K g) (i2c c f) := by
  intro W σ H G x y dx dy Q hx hy q
  obtain ⟨d, e, k, _⟩ := op_done q
  cases dx with
  | int i => cases dy with
    | int j =>
      obtain ⟨e1, e2⟩ := ite_some e
      subst e2
      cases hx; cases hy; exact ⟨i, j, rfl, rfl, hc i j e1, k _ (h G i j)⟩
    | _ => cases e
  | _ => cases e
abbrev addI : D → D → Option D := i2 fun i j => .int (i + j)
abbrev subI : D → D → Option D := i2 fun i j => .int (i - j)
def cMul (i j : Int) : Bool := decide ((-(2 ^ 64) < i ∧ i < 2 ^ 64) ∨ (-(2 ^ 64) < j ∧ j < 2 ^ 64))
abbrev mulI : D → D → Option D := i2c cMul fun i j => .int (i * j)
def cDiv (i j : Int) : Bool := decide (0 < j ∧ j < 1073741824)
abbrev divI : D → D → Option D := i2c cDiv fun i j => .int (i / j)
def cMod (i j : Int) : Bool := decide (0 < j)
abbrev modI : D → D → Option D := i2c cMod fun i j => .int (i % j)
def cPow (i j : Int) : Bool := decide (0 ≤ j ∧ j ≤ 1000000 ∧ i.natAbs < 2 ^ 64)
abbrev powI : D → D → Option D := i2c cPow fun i j => .int (i ^ j.toNat)
theorem o_add : Op2 C (rI0 fun i j => .int (i + j)) addI := o_i2 fun _ _ _ => .int _
theorem o_sub : Op2 C (rI0 fun i j => .int (i - j)) subI := o_i2 fun _ _ _ => .int _
theorem o_mul : Op2 C (rI CMul fun i j => .int (i * j)) mulI := o_i2c (fun i j h => of_decide_eq_true (p := (-(2 ^ 64) < i ∧ i < 2 ^ 64) ∨ (-(2 ^ 64) < j ∧ j < 2 ^ 64)) h) fun _ _ _ => .int _
theorem o_div : Op2 C (rI CDiv fun i j => .int (i / j)) divI := o_i2c (fun i j h => of_decide_eq_true (p := 0 < j ∧ j < 1073741824) h) fun _ _ _ => .int _
theorem o_mod : Op2 C (rI (fun _ j => 0 < j) fun i j => .int (i % j)) modI := o_i2c (fun _ _ h => of_decide_eq_true h) fun _ _ _ => .int _
theorem o_pow : Op2 C (rI CPow fun i j => .int (i ^ j.toNat)) powI := o_i2c (fun i j h => of_decide_eq_true (p := 0 ≤ j ∧ j ≤ 1000000 ∧ i.natAbs < 2 ^ 64) h) fun _ _ _ => .int _
abbrev ltI : D → D → Option D := i2 fun i j => .bl (decide (i < j))
abbrev leI : D → D → Option D := i2 fun i j => .bl (decide (i ≤ j))
abbrev gtI : D → D → Option D := i2 fun i j => .bl (decide (j < i))
abbrev geI : D → D → Option D := i2 fun i j => .bl (decide (j ≤ i))
theorem o_lt : Op2 C (rI0 fun i j => .bl (decide (i < j))) ltI := o_i2 fun _ _ _ => .bl _
theorem o_le : Op2 C (rI0 fun i j => .bl (decide (i ≤ j))) leI := o_i2 fun _ _ _ => .bl _
theorem o_gt : Op2 C (rI0 fun i j => .bl (decide (j < i))) gtI := o_i2 fun _ _ _ => .bl _
theorem o_ge : Op2 C (rI0 fun i j => .bl (decide (j ≤ i))) geI := o_i2 fun _ _ _ => .bl _
def negI : D → Option D
  | .int i => some (.int (-i))
  | _ => none
theorem o_neg : Op1 C (rU fun i => .int (-i)) negI := by
  intro W σ H G x dx Q hx q
  obtain ⟨d, e, k, _⟩ := op_done q
  cases dx with
  | int i => cases hx; cases e; exact ⟨i, rfl, k _ (.int _)⟩
  | _ => cases e
/-! ### is None -/
def nonB : D → Bool
  | .non => true
  | _ => false
def isN : D → D → Option D := fun d e => match e with
  | .non => some (.bl (nonB d))
  | _ => none
def isNotN : D → D → Option D := fun d e => match e with
  | .non => some (.bl (!nonB d))
  | _ => none
theorem has_non {G : Hp} {v : V} {d : D} (h : Has C G v d) : decide (v = .non) = nonB d := by
  cases h <;> first | rfl | (exact decide_eq_false (fun z => nomatch z))
theorem o_isN : Op2 C (fun x y H Q => y = .non ∧ Q (.bl (decide (x = .non))) H) isN := by
  intro W σ H G x y dx dy Q hx hy q
  obtain ⟨d, e, k, _⟩ := op_done q
  cases dy with
  | non => cases hy; cases e; exact ⟨rfl, k _ (by rw [has_non hx]; exact .bl _)⟩
  | _ => cases e
theorem o_notN : Op2 C (fun x y H Q => y = .non ∧ Q (.bl (!decide (x = .non))) H) isNotN := by
  intro W σ H G x y dx dy Q hx hy q
  obtain ⟨d, e, k, _⟩ := op_done q
  cases dy with
  | non => cases hy; cases e; exact ⟨rfl, k _ (by rw [has_non hx]; exact .bl _)⟩
  | _ => cases e
/-! ### == -/
mutual
def toP : D → PyData
  | .non => .none
  | .bl b => .bool b
  | .int i => .int i
  | .str x => .str x
  | .tup xs => .tuple (toPs xs)
  | .lst xs => .list (toPs xs)
  | .scr ns => .list (ns.map PyData.int)
  | _ => .dict []
def toPs : List D → List PyData
  | [] => []
  | d :: ds => toP d :: toPs ds
end
mutual
/-- plain through and through, at most so deep -/
def lvl : Nat → D → Bool
  | _, .non => true
  | _, .bl _ => true
  | _, .int _ => true
  | _, .str x => PyData.strOk x
  | n + 1, .tup xs => lvls n xs
  | n + 1, .lst xs => lvls n xs
  | n + 1, .scr _ => true
  | _, _ => false
def lvls : Nat → List D → Bool
  | _, [] => true
  | n, d :: ds => lvl n d && lvls n ds
end
theorem lvl_ints (n : Nat) : ∀ ns : List Int, PyData.canLayAll0 (ns.map PyData.int) = true ∧ PyData.depthAll (ns.map PyData.int) ≤ n
  | [] => ⟨by unfold List.map PyData.canLayAll0; rfl, by unfold List.map PyData.depthAll; omega⟩
  | i :: ns => by
    obtain ⟨h1, h2⟩ := lvl_ints n ns
    rw [List.map_cons]
    unfold PyData.canLayAll0 PyData.depthAll
    refine ⟨?_, ?_⟩
    · rw [h1]; unfold PyData.canLay0; rfl
    · unfold PyData.depth; exact Nat.max_le.mpr ⟨Nat.zero_le _, h2⟩
theorem dp_ints {K : PySem.W.Frag} {H : Hp} : ∀ ns : List Int, DpAll K H (ns.map V.int) (ns.map PyData.int)
  | [] => .nil
  | i :: ns => .cons (.int i) (dp_ints ns)
mutual
theorem lvl_ok : ∀ (n : Nat) (d : D), lvl n d = true → (toP d).canLay0 = true ∧ (toP d).depth ≤ n
  | _, .non, _ => ⟨by unfold toP PyData.canLay0; rfl, by unfold toP PyData.depth; omega⟩
  | _, .bl _, _ => ⟨by unfold toP PyData.canLay0; rfl, by unfold toP PyData.depth; omega⟩
  | _, .int _, _ => ⟨by unfold toP PyData.canLay0; rfl, by unfold toP PyData.depth; omega⟩
  | _, .str x, h => ⟨by unfold toP PyData.canLay0; unfold lvl at h; exact h, by unfold toP PyData.depth; omega⟩
  | 0, .tup xs, h => by unfold lvl at h; cases h
  | 0, .lst xs, h => by unfold lvl at h; cases h
  | n + 1, .tup xs, h => by
    unfold lvl at h
    obtain ⟨h1, h2⟩ := lvls_ok n xs h
    exact ⟨by unfold toP PyData.canLay0; exact h1, by unfold toP PyData.depth; omega⟩
  | n + 1, .lst xs, h => by
    unfold lvl at h
    obtain ⟨h1, h2⟩ := lvls_ok n xs h
    exact ⟨by unfold toP PyData.canLay0; exact h1, by unfold toP PyData.depth; omega⟩
  | 0, .scr xs, h => by unfold lvl at h; cases h
  | n + 1, .scr xs, h => by
    obtain ⟨h1, h2⟩ := lvl_ints n xs
    exact ⟨by unfold toP PyData.canLay0; exact h1, by unfold toP PyData.depth; omega⟩
  | n, .dic _, h => by unfold lvl at h; cases h
  | n, .ref _, h => by unfold lvl at h; cases h
  | n, .memo _ _, h => by unfold lvl at h; cases h
  | n, .obj _ _, h => by unfold lvl at h; cases h
theorem lvls_ok : ∀ (n : Nat) (ds : List D), lvls n ds = true → PyData.canLayAll0 (toPs ds) = true ∧ PyData.depthAll (toPs ds) ≤ n
  | _, [], _ => ⟨by unfold toPs PyData.canLayAll0; rfl, by unfold toPs PyData.depthAll; omega⟩
  | n, d :: ds, h => by
    unfold lvls at h
    rw [Bool.and_eq_true] at h
    obtain ⟨h1, h2⟩ := lvl_ok n d h.1
    obtain ⟨h3, h4⟩ := lvls_ok n ds h.2
    refine ⟨?_, ?_⟩
    · unfold toPs PyData.canLayAll0
      rw [h1, h3] <;> rfl
    · unfold toPs PyData.depthAll
      exact Nat.max_le.mpr ⟨h2, h4⟩
end
theorem lvl_shaped {d : D} (h : lvl 60 d = true) : SeqAt.shaped (toP d) = true := by
  obtain ⟨h1, h2⟩ := lvl_ok 60 d h
  unfold SeqAt.shaped
  rw [h1, decide_eq_true (by omega)] <;> rfl
mutual
theorem dp_of {G H : Hp} (g : Sub C G H) : ∀ {n : Nat} {v : V} {d : D}, Has C G v d → lvl n d = true → Dp C.K H v (toP d)
  | _, _, _, .non, _ => by unfold toP; exact .non
  | _, _, _, .bl b, _ => by unfold toP; exact .bl b
  | _, _, _, .int i, _ => by unfold toP; exact .int i
  | _, _, _, .str x, _ => by unfold toP; exact .str x
  | 0, _, _, .tup _ _, h => by unfold lvl at h; cases h
  | 0, _, _, .lst _ _, h => by unfold lvl at h; cases h
  | n + 1, _, _, .tup hs r, h => by unfold toP; unfold lvl at h; exact .tup ((Sub.grow (C := C) g).sqT hs) (dps_of g r h)
  | n + 1, _, _, .lst hs r, h => by unfold toP; unfold lvl at h; exact .lst (.of (g.lst hs)) (dps_of g r h)
  | 0, _, _, .scr _, h => by unfold lvl at h; cases h
  | n + 1, _, _, .scr hs, h => by unfold toP; exact .lst ((Sub.grow (C := C) g).sqL hs) (dp_ints _)
  | n, _, _, .dic _ _, h => by unfold lvl at h; cases h
  | n, _, _, .ref _, h => by unfold lvl at h; cases h
  | n, _, _, .memo _, h => by unfold lvl at h; cases h
  | n, _, _, .obj _ _, h => by unfold lvl at h; cases h
theorem dps_of {G H : Hp} (g : Sub C G H) : ∀ {n : Nat} {vs : List V} {ds : List D}, HasAll C G vs ds → lvls n ds = true → DpAll C.K H vs (toPs ds)
  | _, _, _, .nil, _ => by unfold toPs; exact .nil
  | n, _, _, .cons h r, l => by
    unfold lvls at l
    rw [Bool.and_eq_true] at l
    unfold toPs
    exact .cons (dp_of g h l.1) (dps_of g r l.2)
end
def eqd (d e : D) : Bool := PyData.eqv (toP d) (toP e)
def eqF (d e : D) : Option D := if (lvl 60 d && lvl 60 e) = true then some (.bl (eqd d e)) else none
def neF (d e : D) : Option D := if (lvl 60 d && lvl 60 e) = true then some (.bl (!eqd d e)) else none
theorem o_eq : Op2 C (rEqD C.K) eqF := by
  intro W σ H G x y dx dy Q hx hy q
  obtain ⟨d, e, k, _, g⟩ := op_done q
  obtain ⟨e1, e2⟩ := ite_some e
  subst e2
  rw [Bool.and_eq_true] at e1
  exact ⟨_, _, dp_of g hx e1.1, dp_of g hy e1.2, lvl_shaped e1.1, lvl_shaped e1.2, k _ (.bl _)⟩
theorem o_ne : Op2 C (rNeD C.K) neF := by
  intro W σ H G x y dx dy Q hx hy q
  obtain ⟨d, e, k, _, g⟩ := op_done q
  obtain ⟨e1, e2⟩ := ite_some e
  subst e2
  rw [Bool.and_eq_true] at e1
  exact ⟨_, _, dp_of g hx e1.1, dp_of g hy e1.2, lvl_shaped e1.1, lvl_shaped e1.2, k _ (.bl _)⟩
/-! ### sequences -/
def ixF (d e : D) : Option D := match e with
  | .int i => (match d with
    | .tup xs => atI xs i
    | .lst xs => atI xs i
    | .scr ns => (atI ns i).map D.int
    | .str z => if sz z.length = true then (atI z.cps.toList i).map fun c => .str ⟨#[c]⟩ else none
    | _ => none)
  | _ => none
theorem atI_has {G : Hp} {vs : List V} {ds : List D} {i : Int} {d : D} (h : HasAll C G vs ds) (e : atI ds i = some d) : ∃ v, atI vs i = some v ∧ Has C G v d := by
  unfold atI at e ⊢
  rw [h.length]
  cases z : ixN ds.length i with
  | none => rw [z] at e; cases e
  | some j =>
    rw [z] at e
    exact h.get e
theorem o_ix : Op2 C (rIx C.K) ixF := by
  intro W σ H G x y dx dy Q hx hy q
  obtain ⟨d, e, k, _, g⟩ := op_done q
  cases dy with
  | int i =>
    cases hy
    cases dx with
    | tup xs =>
      cases hx with
      | tup hs r =>
        obtain ⟨v, h1, h2⟩ := atI_has r e
        exact .inr (.inl ⟨_, _, i, v, rfl, rfl, (Sub.grow (C := C) g).sqT hs, h1, k v h2⟩)
    | lst xs =>
      cases hx with
      | lst hs r =>
        obtain ⟨v, h1, h2⟩ := atI_has r e
        exact .inl ⟨_, _, i, v, rfl, rfl, (.of (g.lst hs)), h1, k v h2⟩
    | scr ns =>
      cases hx with
      | scr hs =>
        obtain ⟨n, e1, rfl⟩ := Option.map_eq_some_iff.mp (show (atI ns i).map D.int = some d from e)
        refine .inl ⟨_, _, i, .int n, rfl, rfl, (Sub.grow (C := C) g).sqL hs, ?_, k _ (.int _)⟩
        unfold atI at e1 ⊢
        rw [List.length_map]
        cases z : ixN ns.length i with
        | none => rw [z] at e1; cases e1
        | some j =>
          rw [z] at e1
          show (ns.map V.int)[j]? = _
          rw [List.getElem?_map, show ns[j]? = some n from e1]
          rfl
    | str z =>
      cases hx
      have e : (if sz z.length = true then (atI z.cps.toList i).map fun c => D.str ⟨#[c]⟩ else none) = some d := e
      split at e
      · rename_i hz
        obtain ⟨c, e1, rfl⟩ := Option.map_eq_some_iff.mp e
        exact .inr (.inr ⟨z, i, c, rfl, rfl, sz_ok hz, e1, k _ (.str _)⟩)
      · cases e
    | _ => cases e
  | _ => cases e
def lenF : List D → Option D
  | [.tup xs] => some (.int xs.length)
  | [.lst xs] => some (.int xs.length)
  | [.scr xs] => some (.int xs.length)
  | [.str z] => if sz z.length = true then some (.int z.length) else none
  | _ => none
theorem o_len : OpN C (fun xs H Q => ∃ x n, xs = [x] ∧ LenV C.K x H n ∧ Q (.int n) H) lenF := by
  intro W σ H G vs ds Q hv q
  obtain ⟨d, e, k, _, g⟩ := op_done q
  cases hv with
  | nil => cases e
  | cons h r =>
    cases r with
    | cons => rename_i d1 _ _ _ _ _ _; cases d1 <;> cases e
    | nil =>
      rename_i v dx
      cases dx with
      | tup xs =>
        cases e
        cases h with
        | tup hs r => exact ⟨_, _, rfl, .inr ⟨_, (Sub.grow (C := C) g).sqT hs, rfl⟩, by rw [r.length]; exact k _ (.int _)⟩
      | lst xs =>
        cases e
        cases h with
        | lst hs r => exact ⟨_, _, rfl, .inl ⟨_, (.of (g.lst hs)), rfl⟩, by rw [r.length]; exact k _ (.int _)⟩
      | scr xs =>
        cases e
        cases h with
        | scr hs => exact ⟨_, _, rfl, .inl ⟨_, (Sub.grow (C := C) g).sqL hs, rfl⟩, by rw [List.length_map]; exact k _ (.int _)⟩
      | str z =>
        obtain ⟨e1, e2⟩ := ite_some e
        subst e2
        cases h
        exact ⟨_, _, rfl, ⟨sz_ok e1, rfl⟩, k _ (.int _)⟩
      | _ => cases e
def tupleF : List D → Option D
  | [.tup xs] => some (.tup xs)
  | [.lst xs] => some (.tup xs)
  | _ => none
theorem o_tuple : OpN C (fun xs H Q => ∃ p ys, xs = [.ref p] ∧ ((SqL C.K H p ys ∧ ∀ l, H l = none → Q (.ref l) (upd H l (.tup ys))) ∨ (SqT C.K H p ys ∧ Q (.ref p) H))) tupleF := by
  intro W σ H G vs ds Q hv q
  obtain ⟨d, e, k, k2, g⟩ := op_done q
  cases hv with
  | nil => cases e
  | cons h r =>
    cases r with
    | cons => rename_i d1 _ _ _ _ _ _; cases d1 <;> cases e
    | nil =>
      rename_i v dx
      cases dx with
      | tup xs =>
        cases e
        have h' := h
        cases h with
        | tup hs r => exact ⟨_, _, rfl, .inr ⟨(Sub.grow (C := C) g).sqT hs, k _ h'⟩⟩
      | lst xs =>
        cases e
        cases h with
        | lst hs r => exact ⟨_, _, rfl, .inl ⟨(.of (g.lst hs)), fun l n => k2 l _ n rfl (.tup (.of upd_same) (r.mono (.new (g.free n))))⟩⟩
      | _ => cases e
def listF : List D → Option D
  | [.tup xs] => some (.lst xs)
  | [.lst xs] => some (.lst xs)
  | _ => none
theorem o_list : OpN C (fun xs H Q => ∃ p ys, xs = [.ref p] ∧ (SqL C.K H p ys ∨ SqT C.K H p ys) ∧ ∀ l, H l = none → Q (.ref l) (upd H l (.lst ys))) listF := by
  intro W σ H G vs ds Q hv q
  obtain ⟨d, e, k, k2, g⟩ := op_done q
  cases hv with
  | nil => cases e
  | cons h r =>
    cases r with
    | cons => rename_i d1 _ _ _ _ _ _; cases d1 <;> cases e
    | nil =>
      rename_i v dx
      cases dx with
      | tup xs =>
        cases e
        cases h with
        | tup hs r => exact ⟨_, _, rfl, .inr ((Sub.grow (C := C) g).sqT hs), fun l n => k2 l _ n rfl (.lst upd_same (r.mono (.new (g.free n))))⟩
      | lst xs =>
        cases e
        cases h with
        | lst hs r => exact ⟨_, _, rfl, .inl (.of (g.lst hs)), fun l n => k2 l _ n rfl (.lst upd_same (r.mono (.new (g.free n))))⟩
      | _ => cases e
def intF : List D → Option D
  | [.int i] => some (.int i)
  | [.bl b] => some (.int (if b = true then 1 else 0))
  | _ => none
theorem o_int : OpN C (fun xs H Q => (∃ i, xs = [.int i] ∧ Q (.int i) H) ∨ ∃ k, xs = [.bl k] ∧ Q (.int (if k then 1 else 0)) H) intF := by
  intro W σ H G vs ds Q hv q
  obtain ⟨d, e, k, _⟩ := op_done q
  cases hv with
  | nil => cases e
  | cons h r =>
    cases r with
    | cons => rename_i d1 _ _ _ _ _ _; cases d1 <;> cases e
    | nil =>
      rename_i v dx
      cases dx with
      | int i => cases e; cases h; exact .inl ⟨i, rfl, k _ (.int _)⟩
      | bl b => cases e; cases h; exact .inr ⟨b, rfl, k _ (.int _)⟩
      | _ => cases e
def absF : List D → Option D
  | [.int i] => some (.int (if i < 0 then -i else i))
  | _ => none
theorem o_abs : OpN C (fun xs H Q => ∃ i, xs = [.int i] ∧ Q (.int (if i < 0 then -i else i)) H) absF := by
  intro W σ H G vs ds Q hv q
  obtain ⟨d, e, k, _⟩ := op_done q
  cases hv with
  | nil => cases e
  | cons h r =>
    cases r with
    | cons => rename_i d1 _ _ _ _ _ _; cases d1 <;> cases e
    | nil =>
      rename_i v dx
      cases dx with
      | int i => cases e; cases h; exact ⟨i, rfl, k _ (.int _)⟩
      | _ => cases e
def max2F : List D → Option D
  | [.int i, .int j] => some (.int (if j > i then j else i))
  | _ => none
def min2F : List D → Option D
  | [.int i, .int j] => some (.int (if j < i then j else i))
  | _ => none
theorem o_max2 : OpN C (fun xs H Q => ∃ i j, xs = [.int i, .int j] ∧ Q (.int (if j > i then j else i)) H) max2F := by
  intro W σ H G vs ds Q hv q
  obtain ⟨d, e, k, _⟩ := op_done q
  unfold max2F at e
  split at e
  · rename_i i j
    cases e
    obtain ⟨v, u, rfl, h1, h2⟩ := hv.two
    cases h1; cases h2
    exact ⟨i, j, rfl, k _ (.int _)⟩
  · cases e
theorem o_min2 : OpN C (fun xs H Q => ∃ i j, xs = [.int i, .int j] ∧ Q (.int (if j < i then j else i)) H) min2F := by
  intro W σ H G vs ds Q hv q
  obtain ⟨d, e, k, _⟩ := op_done q
  unfold min2F at e
  split at e
  · rename_i i j
    cases e
    obtain ⟨v, u, rfl, h1, h2⟩ := hv.two
    cases h1; cases h2
    exact ⟨i, j, rfl, k _ (.int _)⟩
  · cases e
/-! lists of numbers, of truths -/
def asI : D → Option Int
  | .int i => some i
  | _ => none
def asIs : List D → Option (List Int)
  | [] => some []
  | .int i :: r => (asIs r).map (i :: ·)
  | _ :: _ => none
theorem asIs_ok : ∀ {ds : List D} {ns : List Int}, asIs ds = some ns → ds = ns.map D.int
  | [], ns, h => by cases h; rfl
  | .int i :: r, ns, h => by
    obtain ⟨ms, e, rfl⟩ := Option.map_eq_some_iff.mp (show (asIs r).map (i :: ·) = some ns from h)
    rw [List.map_cons, asIs_ok e]
  | .non :: _, _, h => by cases h
  | .bl _ :: _, _, h => by cases h
  | .str _ :: _, _, h => by cases h
  | .tup _ :: _, _, h => by cases h
  | .lst _ :: _, _, h => by cases h
  | .dic _ :: _, _, h => by cases h
  | .scr _ :: _, _, h => by cases h
  | .ref _ :: _, _, h => by cases h
  | .memo _ _ :: _, _, h => by cases h
  | .obj _ _ :: _, _, h => by cases h
theorem asIs_map : ∀ ns : List Int, asIs (ns.map D.int) = some ns
  | [] => rfl
  | n :: ns => by rw [List.map_cons]; show (asIs (ns.map D.int)).map (n :: ·) = _; rw [asIs_map ns]; rfl
def bls : List D → Option (List Bool)
  | [] => some []
  | .bl i :: r => (bls r).map (i :: ·)
  | _ :: _ => none
theorem bls_ok : ∀ {ds : List D} {ns : List Bool}, bls ds = some ns → ds = ns.map D.bl
  | [], ns, h => by cases h; rfl
  | .bl i :: r, ns, h => by
    obtain ⟨ms, e, rfl⟩ := Option.map_eq_some_iff.mp (show (bls r).map (i :: ·) = some ns from h)
    rw [List.map_cons, bls_ok e]
  | .non :: _, _, h => by cases h
  | .int _ :: _, _, h => by cases h
  | .str _ :: _, _, h => by cases h
  | .tup _ :: _, _, h => by cases h
  | .lst _ :: _, _, h => by cases h
  | .dic _ :: _, _, h => by cases h
  | .scr _ :: _, _, h => by cases h
  | .ref _ :: _, _, h => by cases h
  | .memo _ _ :: _, _, h => by cases h
  | .obj _ _ :: _, _, h => by cases h
theorem bls_map : ∀ ns : List Bool, bls (ns.map D.bl) = some ns
  | [] => rfl
  | n :: ns => by rw [List.map_cons]; show (bls (ns.map D.bl)).map (n :: ·) = _; rw [bls_map ns]; rfl
theorem HasAll.bls {G : Hp} : ∀ {vs : List V} {ns : List Bool}, HasAll C G vs (ns.map D.bl) → vs = ns.map V.bl
  | _, [], .nil => rfl
  | _, n :: ns, .cons h r => by
    cases h
    rw [List.map_cons, HasAll.bls r]
def allF : List D → Option D
  | [.lst xs] => (bls xs).map fun bs => .bl (bs.all id)
  | _ => none
theorem o_all : OpN C (rAll C.K) allF := by
  intro W σ H G vs ds Q hv q
  obtain ⟨d, e, k, _, g⟩ := op_done q
  unfold allF at e
  split at e
  · obtain ⟨bs, e1, rfl⟩ := Option.map_eq_some_iff.mp e
    obtain ⟨v, rfl, h⟩ := hv.one
    cases h with
    | lst hs r =>
      rw [bls_ok e1] at r
      rw [HasAll.bls r] at hs
      exact ⟨_, bs, rfl, (.of (g.lst hs)), k _ (.bl _)⟩
  · cases e
end
end DL
end
section
set_option Elab.async false
set_option linter.all false
set_option maxRecDepth 100000
namespace DL
open PySem PySem.Spec PyProof.Rows L2
/-! ### sum, min, max of tuples -/
section
variable {prog : Program} {w : World} {A : Around} {E : Value → Shared → Prop} {s : Shared} {l : Addr}
theorem iter_tupD {items : Array Value} {Q : Value → Shared → Prop} (hl : s.heap.IsTuple l items)
    (h : ∀ s₂ : Shared, s₂ = { s with heap := s.heap.push { cls := .type "tuple_iterator", data := .fields #[.ref l, .int 0 0] } } →
      (s₂.heap.IsTupleIter s.heap.objs.size l 0 ∧ s₂.heap.IsTuple l items) → (∀ b ∈ [s.heap.objs.size, l], b < s₂.heap.objs.size) → l ≠ s.heap.objs.size → Q (.ref s.heap.objs.size) s₂) : wpAny (model prog w) A (pyIter (.ref l)) Q E s := by
  have hlt : l < s.heap.objs.size := by obtain ⟨_, e, _⟩ := hl; exact Heap.lt_size e
  refine wpAny_pyIter_tuple hl (h _ rfl ⟨⟨_, Heap.get?_push_size _ rfl, rfl, rfl⟩, ?_⟩ (fun b hb => ?_) (Nat.ne_of_lt hlt))
  · obtain ⟨o, e, c⟩ := hl
    exact ⟨o, Heap.get?_push_of_some _ e, c⟩
  · show b < (s.heap.push _).objs.size
    rw [Heap.size_push]
    rcases List.mem_cons.mp hb with e | hb
    · rw [e]; exact Nat.lt_succ_self _
    · have e : b = l := by simpa using hb
      rw [e]; exact Nat.lt_succ_of_lt hlt
theorem old_keptD {h' : Heap} {o0 : Obj} (k : ∀ b o, b ∉ [s.heap.objs.size] → (s.heap.push o0).get? b = some o → h'.get? b = some o) : ∀ b o, s.heap.get? b = some o → h'.get? b = some o := fun b o e =>
  k b o (fun z => by have z' : b = s.heap.objs.size := by simpa using z
                     exact absurd (z' ▸ Heap.lt_size e) (Nat.lt_irrefl _)) (Heap.get?_push_of_some _ e)
theorem sum_tupD {xs : Array (Int × Tok)} {Q : Value → Shared → Prop} (hh : A.handled = none) (hl : s.heap.IsTuple l (intItems xs))
    (h : ∀ h' tk t', (∀ b o, s.heap.get? b = some o → h'.get? b = some o) → Q (.int (preSum (numAt xs) xs.size) t') { s with heap := h', toks := tk }) :
    wpAny (model prog w) A (call (.builtin "sum") [.ref l]) Q E s := by
  refine call_sum_walkG (iter_tupD hl fun s₂ e st hfp hlI => ?_)
  subst e
  refine ⟨_, _, _, _, _, _, numAt xs, rfl, Walks.tuple (A := A.in1) hh _ l hlI (intItems xs), st, hfp, (fun _ _ => intItems_at), fun h' tk t' hk => ?_⟩
  have := h h' tk t' (old_keptD hk)
  simpa [intItems] using this
theorem max_tupD {xs : Array (Int × Tok)} {Q : Value → Shared → Prop} (hh : A.handled = none) (hl : s.heap.IsTuple l (intItems xs)) (hne : 0 < xs.size)
    (h : ∀ v h' tk, (intItems xs)[argBest (fun i j => decide (numAt xs i > numAt xs j)) (xs.size - 1)]? = some v → (∀ b o, s.heap.get? b = some o → h'.get? b = some o) → Q v { s with heap := h', toks := tk }) :
    wpAny (model prog w) A (call (.builtin "max") [.ref l]) Q E s := by
  refine call_max_walk (iter_tupD hl fun s₂ e st hfp hlI => ?_)
  subst e
  refine ⟨_, _, _, _, _, _, _, rfl, Walks.tuple (A := A.in1) hh _ l hlI (intItems xs), st, hfp, by simpa [intItems] using hne, CmpOf.ints_gt (numAt xs) (fun _ _ => intItems_at), fun v h' tk hP hk => ?_⟩
  exact h v h' tk (by simpa [intItems] using hP) (old_keptD hk)
theorem min_tupD {xs : Array (Int × Tok)} {Q : Value → Shared → Prop} (hh : A.handled = none) (hl : s.heap.IsTuple l (intItems xs)) (hne : 0 < xs.size)
    (h : ∀ v h' tk, (intItems xs)[argBest (fun i j => decide (numAt xs i < numAt xs j)) (xs.size - 1)]? = some v → (∀ b o, s.heap.get? b = some o → h'.get? b = some o) → Q v { s with heap := h', toks := tk }) :
    wpAny (model prog w) A (call (.builtin "min") [.ref l]) Q E s := by
  refine call_min_walk (iter_tupD hl fun s₂ e st hfp hlI => ?_)
  subst e
  refine ⟨_, _, _, _, _, _, _, rfl, Walks.tuple (A := A.in1) hh _ l hlI (intItems xs), st, hfp, by simpa [intItems] using hne, CmpOf.ints_lt (numAt xs) (fun _ _ => intItems_at), fun v h' tk hP hk => ?_⟩
  exact h v h' tk (by simpa [intItems] using hP) (old_keptD hk)
theorem sum_rawT {its : List Value} {ns : List Int} {Q : Value → Shared → Prop} (hh : A.handled = none) (hl : s.heap.IsTuple l its.toArray) (hi : IntsAre its ns)
    (h : ∀ h' tk t', (∀ b o, s.heap.get? b = some o → h'.get? b = some o) → Q (.int ns.sum t') { s with heap := h', toks := tk }) : wpAny (model prog w) A (call (.builtin "sum") [.ref l]) Q E s := by
  obtain ⟨xs, e⟩ := hi.allInts.items
  have hn : numsOf (intItems xs).toList = ns := by rw [← e]; exact hi.numsOf
  rw [nums_intItems] at hn
  rw [e] at hl
  refine sum_tupD hh hl fun h' tk t' hk => ?_
  have := h h' tk t' hk
  rw [preSum_eq, List.take_of_length_le (by simp), hn]; exact this
theorem min_rawT {its : List Value} {ns : List Int} {Q : Value → Shared → Prop} (hh : A.handled = none) (hl : s.heap.IsTuple l its.toArray) (hi : IntsAre its ns) (hne : 0 < ns.length)
    (h : ∀ h' tk M t', (∀ b o, s.heap.get? b = some o → h'.get? b = some o) → M ∈ ns → (∀ a, a ∈ ns → M ≤ a) → Q (.int M t') { s with heap := h', toks := tk }) : wpAny (model prog w) A (call (.builtin "min") [.ref l]) Q E s := by
  obtain ⟨xs, e⟩ := hi.allInts.items
  have hn : numsOf (intItems xs).toList = ns := by rw [← e]; exact hi.numsOf
  rw [nums_intItems] at hn
  subst hn
  rw [e] at hl
  have hsz : 0 < xs.size := by simpa using hne
  refine min_tupD hh hl hsz fun v h' tk hv hk => ?_
  obtain ⟨t, rfl⟩ := intItems_at hv
  obtain ⟨h1, h2⟩ := argBest_lt (numAt xs) (xs.size - 1)
  refine h h' tk _ t hk ?_ fun a ha => ?_
  · rw [numAt_eq]; exact PySem.getD_mem (by rw [List.length_map, Array.length_toList]; omega)
  · obtain ⟨j, hj, rfl⟩ := mem_getD ha
    rw [List.length_map, Array.length_toList] at hj
    rw [← numAt_eq]; exact h2 j (by omega)
theorem max_rawT {its : List Value} {ns : List Int} {Q : Value → Shared → Prop} (hh : A.handled = none) (hl : s.heap.IsTuple l its.toArray) (hi : IntsAre its ns) (hne : 0 < ns.length)
    (h : ∀ h' tk M t', (∀ b o, s.heap.get? b = some o → h'.get? b = some o) → M ∈ ns → (∀ a, a ∈ ns → a ≤ M) → Q (.int M t') { s with heap := h', toks := tk }) : wpAny (model prog w) A (call (.builtin "max") [.ref l]) Q E s := by
  obtain ⟨xs, e⟩ := hi.allInts.items
  have hn : numsOf (intItems xs).toList = ns := by rw [← e]; exact hi.numsOf
  rw [nums_intItems] at hn
  subst hn
  rw [e] at hl
  have hsz : 0 < xs.size := by simpa using hne
  refine max_tupD hh hl hsz fun v h' tk hv hk => ?_
  obtain ⟨t, rfl⟩ := intItems_at hv
  obtain ⟨h1, h2⟩ := argBest_gt (numAt xs) (xs.size - 1)
  refine h h' tk _ t hk ?_ fun a ha => ?_
  · rw [numAt_eq]; exact PySem.getD_mem (by rw [List.length_map, Array.length_toList]; omega)
  · obtain ⟨j, hj, rfl⟩ := mem_getD ha
    rw [List.length_map, Array.length_toList] at hj
    rw [← numAt_eq]; exact h2 j (by omega)
end
section
variable {X : Cx}
def SqA (K : PySem.W.Frag) (H : Hp) (a : Addr) (xs : List V) : Prop := SqL K H a xs ∨ SqT K H a xs
def rSumA (K : PySem.W.Frag) : List V → Hp → VK → Prop := fun vs H Q => ∃ (a : Addr) (ns : List Int), vs = [V.ref a] ∧ SqA K H a (ns.map V.int) ∧ Q (.int ns.sum) H
def rMaxA (K : PySem.W.Frag) : List V → Hp → VK → Prop := fun vs H Q => ∃ (a : Addr) (ns : List Int), vs = [V.ref a] ∧ SqA K H a (ns.map V.int) ∧ 0 < ns.length ∧ ∀ m, m ∈ ns → (∀ y, y ∈ ns → y ≤ m) → Q (.int m) H
def rMinA (K : PySem.W.Frag) : List V → Hp → VK → Prop := fun vs H Q => ∃ (a : Addr) (ns : List Int), vs = [V.ref a] ∧ SqA K H a (ns.map V.int) ∧ 0 < ns.length ∧ ∀ m, m ∈ ns → (∀ y, y ∈ ns → m ≤ y) → Q (.int m) H
theorem cr_sumA (hc : X.calm = true) : CallR X (.builtin "sum") (rSumA X.K) := by
  intro pins s σ H vs us Q I r h
  obtain ⟨a, ns, rfl, hs, q⟩ := h
  rcases hs with hs | hs
  · exact cr_sum hc pins s σ H _ us Q I r ⟨a, ns, rfl, hs, q⟩
  · obtain ⟨its, rv, hl, _⟩ := I.tuple hs
    rw [Vals.ref1 r]
    exact sum_rawT (I.ok.hd hc) hl rv.ints fun h' tk t' hk => ⟨.int _, H, I.kept hk, ⟨_, rfl⟩, q⟩
theorem cr_maxA (hc : X.calm = true) : CallR X (.builtin "max") (rMaxA X.K) := by
  intro pins s σ H vs us Q I r h
  obtain ⟨a, ns, rfl, hs, hne, q⟩ := h
  rcases hs with hs | hs
  · exact cr_max hc pins s σ H _ us Q I r ⟨a, ns, rfl, hs, hne, q⟩
  · obtain ⟨its, rv, hl, _⟩ := I.tuple hs
    rw [Vals.ref1 r]
    exact max_rawT (I.ok.hd hc) hl rv.ints hne fun h' tk m t' hk h1 h2 => ⟨.int _, H, I.kept hk, ⟨_, rfl⟩, q m h1 h2⟩
theorem cr_minA (hc : X.calm = true) : CallR X (.builtin "min") (rMinA X.K) := by
  intro pins s σ H vs us Q I r h
  obtain ⟨a, ns, rfl, hs, hne, q⟩ := h
  rcases hs with hs | hs
  · exact cr_min hc pins s σ H _ us Q I r ⟨a, ns, rfl, hs, hne, q⟩
  · obtain ⟨its, rv, hl, _⟩ := I.tuple hs
    rw [Vals.ref1 r]
    exact min_rawT (I.ok.hd hc) hl rv.ints hne fun h' tk m t' hk h1 h2 => ⟨.int _, H, I.kept hk, ⟨_, rfl⟩, q m h1 h2⟩
end
/-- the numbers of a list or tuple -/
def numsF : List D → Option (List Int)
  | [.lst xs] => asIs xs
  | [.tup xs] => asIs xs
  | _ => none
def minL : List Int → Int
  | [] => 0
  | [x] => x
  | x :: y :: r => min x (minL (y :: r))
def maxL : List Int → Int
  | [] => 0
  | [x] => x
  | x :: y :: r => max x (maxL (y :: r))
theorem minL_le : ∀ {l : List Int} {y : Int}, y ∈ l → minL l ≤ y
  | [x], y, h => by rw [List.mem_singleton.mp h]; exact Int.le_refl _
  | x :: z :: r, y, h => by
    show min x (minL (z :: r)) ≤ y
    rcases List.mem_cons.mp h with e | h
    · rw [e]; exact Int.min_le_left _ _
    · exact Int.le_trans (Int.min_le_right _ _) (minL_le h)
theorem minL_mem : ∀ {l : List Int}, l ≠ [] → minL l ∈ l
  | [], h => absurd rfl h
  | [x], _ => List.mem_cons_self
  | x :: z :: r, _ => by
    show min x (minL (z :: r)) ∈ _
    rcases Int.le_total x (minL (z :: r)) with h | h
    · rw [Int.min_eq_left h]; exact List.mem_cons_self
    · rw [Int.min_eq_right h]; exact List.mem_cons_of_mem _ (minL_mem (by simp))
theorem le_maxL : ∀ {l : List Int} {y : Int}, y ∈ l → y ≤ maxL l
  | [x], y, h => by rw [List.mem_singleton.mp h]; exact Int.le_refl _
  | x :: z :: r, y, h => by
    show y ≤ max x (maxL (z :: r))
    rcases List.mem_cons.mp h with e | h
    · rw [e]; exact Int.le_max_left _ _
    · exact Int.le_trans (le_maxL h) (Int.le_max_right _ _)
theorem maxL_mem : ∀ {l : List Int}, l ≠ [] → maxL l ∈ l
  | [], h => absurd rfl h
  | [x], _ => List.mem_cons_self
  | x :: z :: r, _ => by
    show max x (maxL (z :: r)) ∈ _
    rcases Int.le_total x (maxL (z :: r)) with h | h
    · rw [Int.max_eq_right h]; exact List.mem_cons_of_mem _ (maxL_mem (by simp))
    · rw [Int.max_eq_left h]; exact List.mem_cons_self
theorem minL_eq {l : List Int} {m : Int} (h1 : m ∈ l) (h2 : ∀ y ∈ l, m ≤ y) : minL l = m :=
  Int.le_antisymm (minL_le h1) (h2 _ (minL_mem (by intro e; rw [e] at h1; cases h1)))
theorem maxL_eq {l : List Int} {m : Int} (h1 : m ∈ l) (h2 : ∀ y ∈ l, y ≤ m) : maxL l = m :=
  Int.le_antisymm (h2 _ (maxL_mem (by intro e; rw [e] at h1; cases h1))) (le_maxL h1)
def sumF (ds : List D) : Option D := (numsF ds).map fun ns => .int ns.sum
def minF (ds : List D) : Option D := (numsF ds).bind fun ns => if ns.isEmpty = false then some (.int (minL ns)) else none
def maxF (ds : List D) : Option D := (numsF ds).bind fun ns => if ns.isEmpty = false then some (.int (maxL ns)) else none
section
variable {C : Cf}
theorem numsF_has {G H : Hp} (g : Sub C G H) {vs : List V} {ds : List D} {ns : List Int} (h : HasAll C G vs ds) (e : numsF ds = some ns) : ∃ a, vs = [.ref a] ∧ SqA C.K H a (ns.map V.int) := by
  unfold numsF at e
  split at e
  · obtain ⟨v, rfl, h1⟩ := h.one
    cases h1 with
    | lst hs r =>
      rw [asIs_ok e] at r
      rw [HasAll.ints r] at hs
      exact ⟨_, rfl, .inl (.of (g.lst hs))⟩
  · obtain ⟨v, rfl, h1⟩ := h.one
    cases h1 with
    | tup hs r =>
      rw [asIs_ok e] at r
      rw [HasAll.ints r] at hs
      exact ⟨_, rfl, .inr ((Sub.grow (C := C) g).sqT hs)⟩
  · cases e
theorem o_sum : OpN C (rSumA C.K) sumF := by
  intro W σ H G vs ds Q hv q
  obtain ⟨d, e, k, _, g⟩ := op_done q
  obtain ⟨ns, e1, rfl⟩ := Option.map_eq_some_iff.mp e
  obtain ⟨a, rfl, hs⟩ := numsF_has g hv e1
  exact ⟨a, ns, rfl, hs, k _ (.int _)⟩
theorem len_pos {ns : List Int} (h : ns.isEmpty = false) : 0 < ns.length := by
  cases ns with
  | nil => cases h
  | cons _ _ => exact Nat.succ_pos _
theorem o_min : OpN C (rMinA C.K) minF := by
  intro W σ H G vs ds Q hv q
  obtain ⟨d, e, k, _, g⟩ := op_done q
  obtain ⟨ns, e1, e2⟩ := Option.bind_eq_some_iff.mp e
  obtain ⟨a, rfl, hs⟩ := numsF_has g hv e1
  split at e2
  · rename_i hp
    cases e2
    exact ⟨a, ns, rfl, hs, len_pos hp, fun m h1 h2 => by rw [← minL_eq h1 h2]; exact k _ (.int _)⟩
  · cases e2
theorem o_max : OpN C (rMaxA C.K) maxF := by
  intro W σ H G vs ds Q hv q
  obtain ⟨d, e, k, _, g⟩ := op_done q
  obtain ⟨ns, e1, e2⟩ := Option.bind_eq_some_iff.mp e
  obtain ⟨a, rfl, hs⟩ := numsF_has g hv e1
  split at e2
  · rename_i hp
    cases e2
    exact ⟨a, ns, rfl, hs, len_pos hp, fun m h1 h2 => by rw [← maxL_eq h1 h2]; exact k _ (.int _)⟩
  · cases e2
end
/-! ### calls of built-ins -/
section
variable {X : Cx} {C : Cf} {W : WX} {pos p : Pos}
theorem d_callB {id : String} {x : Str} {r : List V → Hp → VK → Prop} {F : List D → Option D} {e : Expr} {es : List Expr} {m : M (List D)} (hr : CallR X (.builtin id) r) (hF : OpN C r F) (hm : X.mg x = none) (hv : bootBuiltins x = some (.builtin id)) (ha : DA X C W (e :: es) m) (hg : Gl X x := by rfl)
    (hn : x ≠ "__name__" := by decide) (hdb : (x == ("__debug__" : Str)) = false := by decide) (he : starEach (e :: es) X.env = (false, eval e X.env) :: starEach es X.env := by rfl) (hpl : (backTo pos (starEach es X.env)).any (·.1) = false := by rfl) :
    DE X C W (.Call (.Name x p) (e :: es) [] pos) (eN F m) :=
  ⟨PE.weak (pe_callB hr hg hm hv ha.pa hn hdb he hpl) fun σ H Q ⟨G, q⟩ => ⟨G, run_imp (run_bind q) fun _ _ H1 G1 ds g q vs hvs => hF W σ H1 G1 vs ds Q hvs q⟩⟩
theorem d_callTy {T : String} {x : Str} {r : List V → Hp → VK → Prop} {F : List D → Option D} {e : Expr} {es : List Expr} {m : M (List D)} (hr : CallR X (.type T) r) (hF : OpN C r F) (hm : X.mg x = none) (hv : bootBuiltins x = some (.type T)) (ha : DA X C W (e :: es) m) (hg : Gl X x := by rfl)
    (hn : x ≠ "__name__" := by decide) (hdb : (x == ("__debug__" : Str)) = false := by decide) (he : starEach (e :: es) X.env = (false, eval e X.env) :: starEach es X.env := by rfl) (hpl : (backTo pos (starEach es X.env)).any (·.1) = false := by rfl) :
    DE X C W (.Call (.Name x p) (e :: es) [] pos) (eN F m) :=
  ⟨PE.weak (pe_callTy hr hg hm hv ha.pa hn hdb he hpl) fun σ H Q ⟨G, q⟩ => ⟨G, run_imp (run_bind q) fun _ _ H1 G1 ds g q vs hvs => hF W σ H1 G1 vs ds Q hvs q⟩⟩
/-- isinstance(x, T), T a built-in class -/
def tyD : D → String
  | .non => "NoneType"
  | .bl _ => "bool"
  | .int _ => "int"
  | .str _ => "str"
  | .tup _ => "tuple"
  | .lst _ => "list"
  | .scr _ => "list"
  | .dic _ => "dict"
  | _ => "?"
def isiF (T : String) (m : M D) : M D := m.bind fun d => lft ((match d with
  | .ref _ => none
  | .memo _ _ => none
  | .obj _ _ => none
  | d => kitB (tyD d) T).map D.bl)
theorem tyx_of {G H : Hp} (g : Sub C G H) {v : V} {d : D} (h : Has C G v d) : (∃ a, d = .ref a) ∨ (∃ k e, d = .memo k e) ∨ (∃ c f, d = .obj c f) ∨ TyX C.K H v (.type (tyD d)) := by
  cases h with
  | non => exact .inr (.inr (.inr (.base .non)))
  | bl b => exact .inr (.inr (.inr (.base (.bl b))))
  | int b => exact .inr (.inr (.inr (.base (.int b))))
  | str b => exact .inr (.inr (.inr (.base (.str b))))
  | tup hs r =>
    refine .inr (.inr (.inr ?_))
    rcases (Sub.grow (C := C) g).sqT hs with (h | ⟨o, h⟩) | ⟨o, its, n, h, c, _⟩
    · exact .base (.tup h)
    · exact .fTuple h
    · exact .kTuple h c
  | lst hs r => exact .inr (.inr (.inr (.base (.lst (g.lst hs)))))
  | scr hs =>
    refine .inr (.inr (.inr ?_))
    rcases (Sub.grow (C := C) g).sqL hs with (h | ⟨o, h⟩) | ⟨o, its, n, h, c, _⟩
    · exact .base (.lst h)
    · exact .base (.frz h)
    · exact .kList h c
  | dic hs r => exact .inr (.inr (.inr (.base (.dK (g.sub _ _ hs rfl)))))
  | ref a => exact .inl ⟨a, rfl⟩
  | memo _ => exact .inr (.inl ⟨_, _, rfl⟩)
  | obj _ _ => exact .inr (.inr (.inl ⟨_, _, rfl⟩))
theorem d_isi {T : String} {x : Str} {e : Expr} {m : M D} {p2 : Pos} (hK : X.K = C.K) (hmi : X.mg "isinstance" = none) (hm : X.mg x = none) (hv : bootBuiltins x = some (.type T)) (ha : DE X C W e m) (hgi : Gl X "isinstance" := by rfl) (hg : Gl X x := by rfl)
    (hn : x ≠ "__name__" := by decide) (hdb : (x == ("__debug__" : Str)) = false := by decide) (hs : starEach [e, .Name x p2] X.env = (false, eval e X.env) :: starEach [.Name x p2] X.env := by rfl) (hs2 : starEach [.Name x p2] X.env = (false, eval (.Name x p2) X.env) :: starEach [] X.env := by rfl) (hpl : (backTo pos (starEach [.Name x p2] X.env)).any (·.1) = false := by rfl) :
    DE X C W (.Call (.Name "isinstance" p) [e, .Name x p2] [] pos) (isiF T m) := by
  refine ⟨PE.weak (pe_callB call_isi hgi hmi (by decide +kernel) (pa_cons ha.pe (pa_cons (pe_bltn (v := .ty T) hg hm hv rfl hn hdb) pa_nil hs2) hs) (by decide) (by decide) hs hpl) fun σ H Q ⟨G, q⟩ => ⟨G, run_imp (run_bind q) fun _ _ H1 G1 d g q v hv => ?_⟩⟩
  obtain ⟨d', e, k, _, gs⟩ := op_done q
  obtain ⟨b, e1, rfl⟩ := Option.map_eq_some_iff.mp e
  rcases tyx_of gs hv with ⟨a, rfl⟩ | ⟨_, _, rfl⟩ | ⟨_, _, rfl⟩ | h
  · cases e1
  · cases e1
  · cases e1
  · refine ⟨v, .ty T, .type (tyD d), .type T, b, rfl, .ty T, by rw [hK]; exact h, kit_ty ?_, k _ (.bl b)⟩
    cases d <;> first
      | exact e1
      | cases e1
end
end DL
end
section
set_option Elab.async false
set_option linter.all false
set_option maxRecDepth 100000
namespace DL
open PySem PySem.Spec PyProof.Rows L2
/-! ### what is walked -/
section
variable {X : Cx} {C : Cf} {W : WX} {tg : Expr} {pos p : Pos}
def iAny (K : PySem.W.Frag) (tl : TE) : TI := fun σ H R => tl σ H fun x H1 => (∃ a, x = .ref a ∧ (∃ xs, SqL K H1 a xs) ∧ R (Itl K a) H1) ∨ (∃ a, x = .ref a ∧ (∃ xs, SqT K H1 a xs) ∧ R (Itt K a) H1) ∨ (∃ z, x = .str z ∧ R (Its z) H1)
theorem pi_any {l : Expr} {tl : TE} (hl : PE X l tl) : PI X tg l (iAny X.K tl) := by
  refine ⟨fun pins s σ H R I h => ?_⟩
  refine thn (hl.run pins s σ H _ I h) fun v s1 hh => ?_
  obtain ⟨x, H1, I1, r1, q1⟩ := hh
  have fr : ∀ b ∈ [s1.heap.objs.size], FpOk X pins H1 b := fun b hb => by
    have e : b = s1.heap.objs.size := by simpa using hb
    rw [e]
    exact I1.fpOk (Nat.le_refl _) (I1.hok.fresh (Nat.le_refl _))
  rcases q1 with ⟨a, e, ⟨xs, hq⟩, q⟩ | ⟨a, e, ⟨xs, hq⟩, q⟩ | ⟨z, e, q⟩
  · subst e
    cases r1
    obtain ⟨its, rv, pl, hz⟩ := I1.list hq
    exact wpAny_pyIter_list pl.isList ⟨s1.heap.objs.size, [s1.heap.objs.size], _, _, H1, rfl, I1.kept (t' := s1.toks) (fun b o e => Heap.get?_push_of_some _ e), turn_list a _, ⟨_, Heap.get?_push_size _ rfl, rfl, rfl⟩, fr, q⟩
  · subst e
    cases r1
    obtain ⟨its, rv, pl, hz⟩ := I1.tuple hq
    exact wpAny_pyIter_tuple (show s1.heap.IsTuple a its.toArray from pl) ⟨s1.heap.objs.size, [s1.heap.objs.size], _, _, H1, rfl, I1.kept (t' := s1.toks) (fun b o e => Heap.get?_push_of_some _ e), turn_tuple a _, ⟨_, Heap.get?_push_size _ rfl, rfl, rfl⟩, fr, q⟩
  · subst e
    obtain ⟨t, rfl⟩ := r1
    cases ha : z.cps.all (· < 128)
    · exact wpAny_pyIter_wide ha (pi_one (tk := s1.toks) I1 _ (turn_str _ z t "str_iterator" (.inr rfl)) ⟨_, Heap.get?_push_size _ rfl, rfl, rfl⟩ q)
    · exact wpAny_pyIter_ascii ha (pi_one (tk := s1.toks) I1 _ (turn_str _ z t "str_ascii_iterator" (.inl rfl)) ⟨_, Heap.get?_push_size _ rfl, rfl, rfl⟩ q)
/-- the items of a thing -/
def itF : D → Option (List D)
  | .lst xs => some xs
  | .tup xs => some xs
  | .str z => some (z.cps.toList.map fun c => .str ⟨#[c]⟩)
  | _ => none
theorem wd_list {G : Hp} {a : Addr} {vs : List V} {ds : List D} (hs : G a = some (.lst vs)) (r : HasAll C G vs ds) : WalkD C (Itl C.K a) ds G where
  goes := fun i H1 G1 hi g gs => ⟨vs, vs[i]'(by rw [r.length]; exact hi), .of (gs.lst (g.keep _ _ hs rfl)), by simp⟩
  stops := fun H1 G1 g gs => ⟨vs, .of (gs.lst (g.keep _ _ hs rfl)), by rw [r.length]; exact Nat.le_refl _⟩
  yields := fun i H1 G1 x H2 hi g gs y => by
    obtain ⟨e, y⟩ := y
    subst e
    have hx := y vs (.of (gs.lst (g.keep _ _ hs rfl)))
    obtain ⟨d, h1, h2⟩ := r.getV hx
    exact ⟨G1, d, h1, h2.mono g, .refl gs⟩
theorem wd_tup {G : Hp} {a : Addr} {vs : List V} {ds : List D} (hs : TupG G a vs) (r : HasAll C G vs ds) : WalkD C (Itt C.K a) ds G where
  goes := fun i H1 G1 hi g gs => ⟨vs, vs[i]'(by rw [r.length]; exact hi), gs.sqT (g.tupG hs), by simp⟩
  stops := fun H1 G1 g gs => ⟨vs, gs.sqT (g.tupG hs), by rw [r.length]; exact Nat.le_refl _⟩
  yields := fun i H1 G1 x H2 hi g gs y => by
    obtain ⟨e, y⟩ := y
    subst e
    have hx := y vs (gs.sqT (g.tupG hs))
    obtain ⟨d, h1, h2⟩ := r.getV hx
    exact ⟨G1, d, h1, h2.mono g, .refl gs⟩
theorem wd_str {G : Hp} {z : Str} : WalkD C (Its z) (z.cps.toList.map fun c => D.str ⟨#[c]⟩) G where
  goes := fun i H1 G1 hi g gs => by
    show i < z.cps.size
    simpa using hi
  stops := fun H1 G1 g gs => by show z.cps.size ≤ _; simp
  yields := fun i H1 G1 x H2 hi g gs y => by
    obtain ⟨e, c, h1, h2⟩ := y
    subst e h2
    refine ⟨G1, .str ⟨#[c]⟩, ?_, .str _, .refl gs⟩
    rw [List.getElem?_map, Array.getElem?_toList, h1]
    rfl
def mIt (m : M D) : M (List D) := m.bind fun d => lft (itF d)
theorem di_any {e : Expr} {m : M D} (hK : X.K = C.K) (h : DE X C W e m) : DI X C W tg e (mIt m) :=
  ⟨iAny X.K (tD C W m), pi_any h.pe, fun σ H R ⟨G, q⟩ => ⟨G, run_imp (run_bind q) fun _ _ H1 G1 d g q v hv => by
    rw [hK]
    obtain ⟨ds, e, B, G0, a, r, k⟩ := run_lft q
    cases d with
    | lst xs =>
      cases e
      cases hv with
      | lst hs rr => exact .inl ⟨_, rfl, ⟨_, .of (r.gh.lst hs)⟩, k H1 G1 .refl r _ (wd_list hs rr)⟩
    | tup xs =>
      cases e
      cases hv with
      | tup hs rr => exact .inr (.inl ⟨_, rfl, ⟨_, (Sub.grow (C := C) r.gh).sqT hs⟩, k H1 G1 .refl r _ (wd_tup hs rr)⟩)
    | str z =>
      cases e
      cases hv
      exact .inr (.inr ⟨z, rfl, k H1 G1 .refl r _ wd_str⟩)
    | _ => cases e⟩⟩
/-! range -/
def rangeL (lo : Int) (n : Nat) : List D := (List.range n).map fun i => .int (lo + (i : Nat))
theorem rangeL_get {lo : Int} {n i : Nat} (h : i < n) : (rangeL lo n)[i]? = some (.int (lo + (i : Nat))) := by
  unfold rangeL
  rw [List.getElem?_map, List.getElem?_range h]
  rfl
theorem rangeL_len {lo : Int} {n : Nat} : (rangeL lo n).length = n := by unfold rangeL; simp
theorem wd_range {G : Hp} {lo : Int} {n : Nat} : WalkD C (Itr lo n) (rangeL lo n) G where
  goes := fun i H1 G1 hi g gs => by rw [rangeL_len] at hi; exact hi
  stops := fun H1 G1 g gs => by rw [rangeL_len]; exact Nat.le_refl _
  yields := fun i H1 G1 x H2 hi g gs y => by
    obtain ⟨e, y⟩ := y
    subst e y
    rw [rangeL_len] at hi
    exact ⟨G1, _, rangeL_get hi, .int _, .refl gs⟩
def smallI (j : Int) : Bool := decide (-(2 ^ 62) ≤ j ∧ j < 2 ^ 62)
def rng1F : List D → Option (List D)
  | [.int j] => if smallI j = true then some (rangeL 0 j.toNat) else none
  | _ => none
def rng2F : List D → Option (List D)
  | [.int i, .int j] => if (smallI i && smallI j) = true then some (rangeL i (j - i).toNat) else none
  | _ => none
theorem di_range1 {a : Expr} {m : M (List D)} (hm : X.mg "range" = none) (ha : DA X C W [a] m) (hg : Gl X "range" := by rfl) (hs : starEach [a] X.env = [(false, eval a X.env)] := by rfl) : DI X C W tg (.Call (.Name "range" p) [a] [] pos) (m.bind fun ds => lft (rng1F ds)) :=
  ⟨_, pi_range1 hg hm ha.pa hs, fun σ H R ⟨G, q⟩ => ⟨G, run_imp (run_bind q) fun _ _ H1 G1 ds g q vs hvs => by
    obtain ⟨xs, e, B, G0, a, r, k⟩ := run_lft q
    unfold rng1F at e
    split at e
    · rename_i j
      obtain ⟨hj, e⟩ := ite_some e
      subst e
      obtain ⟨v, rfl, h1⟩ := hvs.one
      cases h1
      have hj : -(2 ^ 62) ≤ j ∧ j < 2 ^ 62 := of_decide_eq_true hj
      exact ⟨j, rfl, hj.1, hj.2, k H1 G1 .refl r _ wd_range⟩
    · cases e⟩⟩
theorem di_range2 {a b : Expr} {m : M (List D)} (hm : X.mg "range" = none) (ha : DA X C W [a, b] m) (hg : Gl X "range" := by rfl) (hs : starEach [a, b] X.env = [(false, eval a X.env), (false, eval b X.env)] := by rfl) (hs2 : starEach [b] X.env = [(false, eval b X.env)] := by rfl) :
    DI X C W tg (.Call (.Name "range" p) [a, b] [] pos) (m.bind fun ds => lft (rng2F ds)) :=
  ⟨_, pi_range2 hg hm ha.pa hs hs2, fun σ H R ⟨G, q⟩ => ⟨G, run_imp (run_bind q) fun _ _ H1 G1 ds g q vs hvs => by
    obtain ⟨xs, e, B, G0, a, r, k⟩ := run_lft q
    unfold rng2F at e
    split at e
    · rename_i i j
      obtain ⟨hj, e⟩ := ite_some e
      subst e
      obtain ⟨v, u, rfl, h1, h2⟩ := hvs.two
      cases h1; cases h2
      rw [Bool.and_eq_true] at hj
      have h3 : -(2 ^ 62) ≤ i ∧ i < 2 ^ 62 := of_decide_eq_true hj.1
      have h4 : -(2 ^ 62) ≤ j ∧ j < 2 ^ 62 := of_decide_eq_true hj.2
      exact ⟨i, j, rfl, ⟨h3.1, h3.2, h4.1, h4.2⟩, k H1 G1 .refl r _ wd_range⟩
    · cases e⟩⟩
/-! enumerate, zip -/
def enumL : Nat → List D → List D
  | _, [] => []
  | n, d :: ds => .tup [.int (n : Nat), d] :: enumL (n + 1) ds
theorem enumL_get : ∀ {ds : List D} {n i : Nat} {d : D}, ds[i]? = some d → (enumL n ds)[i]? = some (.tup [.int ((n + i : Nat) : Int), d])
  | [], _, _, _, h => by simp at h
  | x :: r, n, 0, d, h => by simp at h; subst h; rfl
  | x :: r, n, i + 1, d, h => by
    have h := enumL_get (n := n + 1) (i := i) (show r[i]? = some d by simpa using h)
    show (enumL (n + 1) r)[i]? = _
    rw [h, show n + 1 + i = n + (i + 1) by omega]
theorem enumL_len : ∀ {ds : List D} {n : Nat}, (enumL n ds).length = ds.length
  | [], _ => rfl
  | _ :: r, n => by show (enumL (n + 1) r).length + 1 = r.length + 1; rw [enumL_len]
theorem wd_enum {G : Hp} {a : Addr} {vs : List V} {ds : List D} (hs : G a = some (.lst vs)) (r : HasAll C G vs ds) : WalkD C (Ite C.K a) (enumL 0 ds) G where
  goes := fun i H1 G1 hi g gs => ⟨vs, vs[i]'(by rw [r.length, ← enumL_len (n := 0)]; exact hi), .of (gs.lst (g.keep _ _ hs rfl)), by simp⟩
  stops := fun H1 G1 g gs => ⟨vs, .of (gs.lst (g.keep _ _ hs rfl)), by rw [enumL_len, r.length]; exact Nat.le_refl _⟩
  yields := fun i H1 G1 x H2 hi g gs y => by
    obtain ⟨T, y, e, n, e2, hy⟩ := y
    subst e e2
    have hx := hy vs (.of (gs.lst (g.keep _ _ hs rfl)))
    obtain ⟨d, h1, h2⟩ := r.getV hx
    have nG : G1 T = none := gs.free n
    have g2 : Grow C G1 (upd G1 T (.tup [.int (i : Nat), y])) := .new nG
    have hd := enumL_get (n := 0) h1
    rw [Nat.zero_add] at hd
    exact ⟨_, _, hd, .tup (.of upd_same) (.cons (.int _) (.cons ((h2.mono g).mono g2) .nil)), .alloc gs n⟩
def enF : List D → Option (List D)
  | [.lst xs] => some (enumL 0 xs)
  | _ => none
theorem di_enum {e : Expr} {elts : List Expr} {kk : Nat} {tpos : Pos} {m : M (List D)} (hK : X.K = C.K) (hm : X.mg "enumerate" = none) (ha : DA X C W [e] m) (hg : Gl X "enumerate" := by rfl) (hs : starEach [e] X.env = [(false, eval e X.env)] := by rfl) :
    DI X C W (.Tuple elts kk tpos) (.Call (.Name "enumerate" p) [e] [] pos) (m.bind fun ds => lft (enF ds)) :=
  ⟨_, pi_enum hg hm ha.pa hs, fun σ H R ⟨G, q⟩ => ⟨G, run_imp (run_bind q) fun _ _ H1 G1 ds g q vs hvs => by
    rw [hK]
    obtain ⟨xs, e, B, G0, a, r, k⟩ := run_lft q
    unfold enF at e
    split at e
    · cases e
      obtain ⟨v, rfl, h1⟩ := hvs.one
      cases h1 with
      | lst hs rr => exact ⟨_, _, rfl, .of (r.gh.lst hs), k H1 G1 .refl r _ (wd_enum hs rr)⟩
    · cases e⟩⟩
def zipL : List D → List D → List D
  | x :: xs, y :: ys => .tup [x, y] :: zipL xs ys
  | _, _ => []
theorem zipL_get : ∀ {xs ys : List D} {i : Nat} {x y : D}, xs[i]? = some x → ys[i]? = some y → (zipL xs ys)[i]? = some (.tup [x, y])
  | [], _, _, _, _, h, _ => by simp at h
  | _ :: _, [], _, _, _, _, h => by simp at h
  | a :: xs, b :: ys, 0, x, y, h, h' => by simp at h h'; subst h h'; rfl
  | a :: xs, b :: ys, i + 1, x, y, h, h' => zipL_get (xs := xs) (ys := ys) (i := i) (by simpa using h) (by simpa using h')
theorem zipL_len : ∀ {xs ys : List D}, (zipL xs ys).length = min xs.length ys.length
  | [], _ => by simp [zipL]
  | _ :: _, [] => by simp [zipL]
  | a :: xs, b :: ys => by show (zipL xs ys).length + 1 = min (xs.length + 1) (ys.length + 1); rw [zipL_len]; omega
theorem wd_zip {G : Hp} {a b : Addr} {vs us : List V} {ds es : List D} (hs : G a = some (.lst vs)) (r : HasAll C G vs ds) (hs2 : G b = some (.lst us)) (r2 : HasAll C G us es) : WalkD C (Itz C.K a b) (zipL ds es) G where
  goes := fun i H1 G1 hi g gs => by
    rw [zipL_len, ← r.length, ← r2.length] at hi
    exact ⟨vs, us, vs[i]'(by omega), us[i]'(by omega), .of (gs.lst (g.keep _ _ hs rfl)), .of (gs.lst (g.keep _ _ hs2 rfl)), by simp, by simp⟩
  stops := fun H1 G1 g gs => by
    rw [zipL_len, ← r.length, ← r2.length]
    exact ⟨vs, us, .of (gs.lst (g.keep _ _ hs rfl)), .of (gs.lst (g.keep _ _ hs2 rfl)), by omega⟩
  yields := fun i H1 G1 x H2 hi g gs y => by
    obtain ⟨T, x1, x2, e, n, e2, h1, h2⟩ := y
    subst e e2
    obtain ⟨d, w1, w2⟩ := r.getV (h1 vs (.of (gs.lst (g.keep _ _ hs rfl))))
    obtain ⟨d', w3, w4⟩ := r2.getV (h2 us (.of (gs.lst (g.keep _ _ hs2 rfl))))
    have g2 : Grow C G1 (upd G1 T (.tup [x1, x2])) := .new (gs.free n)
    exact ⟨_, _, zipL_get w1 w3, .tup (.of upd_same) (.cons ((w2.mono g).mono g2) (.cons ((w4.mono g).mono g2) .nil)), .alloc gs n⟩
theorem wd_zipT {G : Hp} {a b : Addr} {vs us : List V} {ds es : List D} (hs : TupG G a vs) (r : HasAll C G vs ds) (hs2 : TupG G b us) (r2 : HasAll C G us es) : WalkD C (RZ.ItzT C.K a b) (zipL ds es) G where
  goes := fun i H1 G1 hi g gs => by
    rw [zipL_len, ← r.length, ← r2.length] at hi
    exact ⟨vs, us, vs[i]'(by omega), us[i]'(by omega), gs.sqT (g.tupG hs), gs.sqT (g.tupG hs2), by simp, by simp⟩
  stops := fun H1 G1 g gs => by
    rw [zipL_len, ← r.length, ← r2.length]
    exact ⟨vs, us, gs.sqT (g.tupG hs), gs.sqT (g.tupG hs2), by omega⟩
  yields := fun i H1 G1 x H2 hi g gs y => by
    obtain ⟨T, x1, x2, e, n, e2, h1, h2⟩ := y
    subst e e2
    obtain ⟨d, w1, w2⟩ := r.getV (h1 vs (gs.sqT (g.tupG hs)))
    obtain ⟨d', w3, w4⟩ := r2.getV (h2 us (gs.sqT (g.tupG hs2)))
    have g2 : Grow C G1 (upd G1 T (.tup [x1, x2])) := .new (gs.free n)
    exact ⟨_, _, zipL_get w1 w3, .tup (.of upd_same) (.cons ((w2.mono g).mono g2) (.cons ((w4.mono g).mono g2) .nil)), .alloc gs n⟩
def zipF : List D → Option (List D)
  | [.lst xs, .lst ys] => some (zipL xs ys)
  | [.tup xs, .tup ys] => some (zipL xs ys)
  | _ => none
theorem di_zip {e e2 : Expr} {elts : List Expr} {kk : Nat} {tpos : Pos} {m : M (List D)} (hK : X.K = C.K) (hm : X.mg "zip" = none) (ha : DA X C W [e, e2] m) (hg : Gl X "zip" := by rfl)
    (hs : starEach [e, e2] X.env = (false, eval e X.env) :: starEach [e2] X.env := by rfl) (hpl : (backTo pos (starEach [e2] X.env)).any (·.1) = false := by rfl) :
    DI X C W (.Tuple elts kk tpos) (.Call (.Name "zip" p) [e, e2] [] pos) (m.bind fun ds => lft (zipF ds)) :=
  ⟨_, RZ.pi_zipA hg hm ha.pa hs hpl, fun σ H R ⟨G, q⟩ => ⟨G, run_imp (run_bind q) fun _ _ H1 G1 ds g q vs hvs => by
    rw [hK]
    obtain ⟨xs, e, B, G0, a, r, k⟩ := run_lft q
    unfold zipF at e
    split at e
    · cases e
      obtain ⟨v, u, rfl, h1, h2⟩ := hvs.two
      cases h1 with
      | lst hs rr => cases h2 with
        | lst hs2 rr2 => exact ⟨_, _, _, _, rfl, .inl ⟨.of (r.gh.lst hs), .of (r.gh.lst hs2), k H1 G1 .refl r _ (wd_zip hs rr hs2 rr2)⟩⟩
    · cases e
      obtain ⟨v, u, rfl, h1, h2⟩ := hvs.two
      cases h1 with
      | tup hs rr => cases h2 with
        | tup hs2 rr2 => exact ⟨_, _, _, _, rfl, .inr ⟨(Sub.grow (C := C) r.gh).sqT hs, (Sub.grow (C := C) r.gh).sqT hs2, k H1 G1 .refl r _ (wd_zipT hs rr hs2 rr2)⟩⟩
    · cases e⟩⟩
end
/-! ### tuples and lists joined, cut -/
section
variable {C : Cf}
def catF : D → D → Option D
  | .tup xs, .tup ys => if sz (xs.length + ys.length) = true then some (.tup (xs ++ ys)) else none
  | _, _ => none
theorem o_catT : Op2 C (rCatA C.K) catF := by
  intro W σ H G x y dx dy Q hx hy q
  obtain ⟨d, e, k, k2, g⟩ := op_done q
  unfold catF at e
  split at e
  · obtain ⟨hz, e⟩ := ite_some e
    subst e
    have hx' := hx
    have hy' := hy
    cases hx with
    | tup hs rr => cases hy with
      | tup hs2 rr2 =>
        refine ⟨_, _, _, _, rfl, rfl, (Sub.grow (C := C) g).sqT hs, (Sub.grow (C := C) g).sqT hs2, by rw [rr.length, rr2.length]; exact sz_ok hz, fun e => ?_, fun _ e => ?_, fun _ _ p n => ?_⟩
        · subst e
          cases rr
          exact k _ hy'
        · subst e
          cases rr2
          rw [List.append_nil] at k
          exact k _ hx'
        · exact k2 p _ n rfl (.tup (.of upd_same) ((rr.append rr2).mono (.new (g.free n))))
  · cases e
def catLF : D → D → Option D
  | .lst xs, .lst ys => if sz (xs.length + ys.length) = true then some (.lst (xs ++ ys)) else none
  | _, _ => none
theorem o_catL : Op2 C rCat catLF := by
  intro W σ H G x y dx dy Q hx hy q
  obtain ⟨d, e, k, k2, g⟩ := op_done q
  unfold catLF at e
  split at e
  · obtain ⟨hz, e⟩ := ite_some e
    subst e
    cases hx with
    | lst hs rr => cases hy with
      | lst hs2 rr2 => exact ⟨_, _, _, _, rfl, rfl, g.lst hs, g.lst hs2, by rw [rr.length, rr2.length]; exact sz_ok hz, fun p n => k2 p _ n rfl (.lst upd_same ((rr.append rr2).mono (.new (g.free n))))⟩
  · cases e
def repLF : D → D → Option D
  | .lst xs, .int k => if (smallI k && sz (xs.length * k.toNat)) = true then some (.lst (List.replicate k.toNat xs).flatten) else none
  | _, _ => none
theorem o_repL : Op2 C rRep repLF := by
  intro W σ H G x y dx dy Q hx hy q
  obtain ⟨d, e, k, k2, g⟩ := op_done q
  unfold repLF at e
  split at e
  · rename_i n
    obtain ⟨hz, e⟩ := ite_some e
    subst e
    rw [Bool.and_eq_true] at hz
    have hn : -(2 ^ 62) ≤ n ∧ n < 2 ^ 62 := of_decide_eq_true hz.1
    cases hy
    cases hx with
    | lst hs rr => exact ⟨_, _, _, rfl, rfl, g.lst hs, by omega, by omega, by rw [rr.length]; exact sz_ok hz.2, fun p m => k2 p _ m rfl (.lst upd_same ((rr.rep _).mono (.new (g.free m))))⟩
  · cases e
def cutD (xs : List D) (lo hi : Option Int) : List D := (xs.drop (HT.sIx xs.length 0 lo)).take (HT.sIx xs.length xs.length hi - HT.sIx xs.length 0 lo)
theorem HasAll.cut {G : Hp} {vs : List V} {ds : List D} (r : HasAll C G vs ds) (lo hi : Option Int) : HasAll C G (cutV vs lo hi) (cutD ds lo hi) := by
  unfold cutV cutD
  rw [r.length]
  exact (r.drop _).take _
def cutF (d : D) (lo hi : Option Int) : Option D := match d with
  | .tup xs => some (.tup (cutD xs lo hi))
  | .lst xs => some (.lst (cutD xs lo hi))
  | .str z => if sz z.length = true then some (.str (cutS z lo hi)) else none
  | _ => none
def rSlAny (K : PySem.W.Frag) : V → Option Int → Option Int → Hp → VK → Prop := fun x lo hi H Q => rSlL K x lo hi H Q ∨ (rSlA K x lo hi H Q ∨ rSlS x lo hi H Q)
theorem sl_any {X : Cx} : SlR X (rSlAny X.K) := sl_list.or (sl_tupA.or sl_str)
theorem cut_whole {vs : List V} {lo hi : Option Int} (h : HT.sIx vs.length 0 lo = 0 ∧ HT.sIx vs.length vs.length hi = vs.length) : cutV vs lo hi = vs := by
  unfold cutV
  rw [h.1, h.2]
  simp
theorem o_cut {W : WX} {σ : DL.St} {H G : Hp} {x : V} {d : D} {lo hi : Option Int} {Q : VK} (hx : Has C G x d) (q : run C W (lft (cutF d lo hi)) σ H G (kD C Q)) : rSlAny C.K x lo hi H Q := by
  obtain ⟨d', e, k, k2, g⟩ := op_done q
  cases d with
  | tup xs =>
    cases e
    have hx' := hx
    cases hx with
    | tup hs rr =>
      refine .inr (.inl ⟨_, _, rfl, (Sub.grow (C := C) g).sqT hs, fun w => k _ ?_, fun _ p n => ?_⟩)
      · have := rr.cut lo hi
        rw [cut_whole w] at this
        exact .tup hs this
      · exact k2 p _ n rfl (.tup (.of upd_same) ((rr.cut lo hi).mono (.new (g.free n))))
  | lst xs =>
    cases e
    cases hx with
    | lst hs rr => exact .inl ⟨_, _, rfl, .of (g.lst hs), fun p n => k2 p _ n rfl (.lst upd_same ((rr.cut lo hi).mono (.new (g.free n))))⟩
  | str z =>
    obtain ⟨hz, e⟩ := ite_some e
    subst e
    cases hx
    exact .inr (.inr ⟨z, rfl, sz_ok hz, k _ (.str _)⟩)
  | _ => cases e
end
section
variable {X : Cx} {C : Cf} {W : WX} {pos p2 : Pos}
/-- a part of a slice -/
structure DO (X : Cx) (C : Cf) (W : WX) (e : Option Expr) (m : M (Option Int)) : Prop where
  ex : ∃ t : TO, PO X e t ∧ ∀ σ H Q, (∃ G, run C W m σ H G (fun _ _ H' _ o => Q o H')) → t σ H Q
theorem do_none : DO X C W none (M.pure none) := ⟨tNoPart, po_none, fun σ H Q ⟨G, q⟩ => by
  obtain ⟨B, G0, a, r, k⟩ := run_pure q
  exact k H G .refl r⟩
theorem do_some {e : Expr} {m : M D} (h : DE X C W e m) : DO X C W (some e) (m.bind fun d => lft ((asI d).map some)) := ⟨tPart (tD C W m), po_some h.pe, fun σ H Q ⟨G, q⟩ => ⟨G, run_imp (run_bind q) fun _ _ H1 G1 d g q v hv => by
  obtain ⟨o, e, B, G0, a, r, k⟩ := run_lft q
  obtain ⟨i, e1, rfl⟩ := Option.map_eq_some_iff.mp e
  cases d with
  | int j => cases e1; cases hv; exact ⟨i, rfl, k H1 G1 .refl r⟩
  | _ => cases e1⟩⟩
def eCut (m : M D) (l h : M (Option Int)) : M D := m.bind fun d => l.bind fun lo => h.bind fun hi => lft (cutF d lo hi)
theorem d_cut {e : Expr} {lo hi : Option Expr} {m : M D} {ml mh : M (Option Int)} (hK : X.K = C.K) (he : DE X C W e m) (hl : DO X C W lo ml) (hh : DO X C W hi mh) : DE X C W (.Subscript e (.Slice lo hi none p2) pos) (eCut m ml mh) := by
  obtain ⟨t, t1, t2⟩ := hl.ex
  obtain ⟨u, u1, u2⟩ := hh.ex
  refine ⟨PE.weak (pe_slice sl_any he.pe t1 u1) fun σ H Q ⟨G, q⟩ => ⟨G, run_imp (run_bind q) fun _ _ H1 G1 d g1 q1 v hv => ?_⟩⟩
  rw [hK]
  refine t2 σ H1 _ ⟨G1, run_imp (run_bind q1) fun _ _ H2 G2 l g2 q2 => ?_⟩
  refine u2 σ H2 _ ⟨G2, run_imp (run_bind q2) fun _ _ H3 G3 h g3 q3 => ?_⟩
  exact o_cut ((hv.mono g2).mono g3) q3
end
end DL
end
section
set_option Elab.async false
set_option linter.all false
set_option maxRecDepth 100000
namespace DL
open PySem PySem.Spec PyProof.Rows L2
/-! ### a slot's own list: changed in place, looked at -/
/-- a value that holds for now: data, or a list of somebody's own -/
def Hs (C : Cf) (G H : Hp) (v : V) (d : D) : Prop := Has C G v d ∨ ∃ p vs xs, v = .ref p ∧ d = .lst xs ∧ H p = some (.lst vs) ∧ HasAll C G vs xs
section
variable {C : Cf} {W : WX} {B G0 H G : Hp} {a : AS} {σ : DL.St}
/-- what slot i holds, looked at -/
def peek (a : AS) (i : Nat) : Option D := match a[i]? with
  | some (.val d) => some d
  | some (.own xs) => some (.lst xs)
  | _ => none
theorem Rel.peek {i : Nat} {d : D} (r : Rel C B G0 a σ H G) (h : DL.peek a i = some d) : ∃ v, σ[i]? = some (some v) ∧ Hs C G H v d := by
  unfold DL.peek at h
  cases e : a[i]? with
  | none => rw [e] at h; cases h
  | some s =>
    rw [e] at h
    cases s with
    | val d' => cases h; obtain ⟨v, h1, h2⟩ := r.slot i _ e; exact ⟨v, h1, .inl h2⟩
    | own xs =>
      cases h
      obtain ⟨p, o, h1, h2, h3, _⟩ := r.slot i _ e
      cases o with
      | lst vs => exact ⟨.ref p, h1, .inr ⟨p, vs, xs, rfl, rfl, h2, h3⟩⟩
      | _ => exact h3.elim
    | _ => cases h
theorem Hs.lst {v : V} {xs : List D} (g : Sub C G H) (h : Hs C G H v (.lst xs)) : ∃ p vs, v = .ref p ∧ H p = some (.lst vs) ∧ HasAll C G vs xs := by
  rcases h with h | ⟨p, vs, ys, h1, h2, h3, h4⟩
  · cases h with
    | lst hs r => exact ⟨_, _, rfl, g.lst hs, r⟩
  · cases h2
    exact ⟨p, vs, h1, h3, h4⟩
theorem Hs.has {v : V} {d : D} (h : Hs C G H v d) (n : ∀ xs, d ≠ .lst xs) : Has C G v d := by
  rcases h with h | ⟨p, vs, ys, h1, h2, _⟩
  · exact h
  · exact absurd h2 (n ys)
theorem Hs.dp {v : V} {d : D} (g : Sub C G H) (h : Hs C G H v d) (l : lvl 60 d = true) : Dp C.K H v (toP d) := by
  rcases h with h | ⟨p, vs, xs, rfl, rfl, h3, h4⟩
  · exact dp_of g h l
  · unfold toP
    unfold lvl at l
    exact .lst (.of h3) (dps_of g h4 l)
/-- o, taken where slot i and more are looked at -/
def look (i : Nat) (f : D → Option D) : M D := fun a => match (peek a i).bind f with
  | some d => .ok d a
  | none => .bad
theorem run_look {i : Nat} {f : D → Option D} {k : Hp → AS → Hp → Hp → D → Prop} (h : run C W (look i f) σ H G k) : ∃ v d e, σ[i]? = some (some v) ∧ Hs C G H v d ∧ f d = some e ∧ Sub C G H ∧ ∃ B a G0, Rel C B G0 a σ H G ∧ ∀ H' G', Grow C G G' → Rel C B G0 a σ H' G' → k B a H' G' e := by
  obtain ⟨B, G0, a, r, h⟩ := h
  unfold look at h
  cases e : (peek a i).bind f with
  | none => rw [e] at h; exact h.elim
  | some x =>
    rw [e] at h
    obtain ⟨d, e1, e2⟩ := Option.bind_eq_some_iff.mp e
    obtain ⟨v, h1, h2⟩ := r.peek e1
    exact ⟨v, d, x, h1, h2, e2, r.gh, B, a, G0, r, h⟩
/-- slot i is there -/
def chk {α : Type} (i : Nat) (m : M α) : M α := fun a => match peek a i with
  | some _ => m a
  | none => .bad
theorem run_chk {α : Type} {i : Nat} {m : M α} {k : Hp → AS → Hp → Hp → α → Prop} (h : run C W (chk i m) σ H G k) : (∃ v, σ[i]? = some (some v)) ∧ run C W m σ H G k := by
  obtain ⟨B, G0, a, r, h⟩ := h
  unfold chk at h
  cases e : peek a i with
  | none => rw [e] at h; exact h.elim
  | some d =>
    rw [e] at h
    obtain ⟨v, h1, _⟩ := r.peek e
    exact ⟨⟨v, h1⟩, B, G0, a, r, h⟩
end
section
variable {X : Cx} {C : Cf} {W : WX} {pos p apos cpos : Pos} {i : Nat} {x : Str}
/-- len(x) -/
theorem d_lenO (i : Nat) (hK : X.K = C.K) (hm : X.mg "len" = none) (hN : X.N[i]? = some x := by rfl) (hv : Vis X.env.scope x := by first | exact Or.inl rfl | exact Or.inr (Or.inl rfl) | exact Or.inr (Or.inr rfl)) (hg : Gl X "len" := by rfl) (hd : (x == ("__debug__" : Str)) = false := by decide)
    (hcd : (x == ("__classdict__" : Str)) = false := by decide) (he : starEach [.Name x pos] X.env = (false, eval (.Name x pos) X.env) :: starEach [] X.env := by rfl) : DE X C W (.Call (.Name "len" p) [.Name x pos] [] cpos) (look i fun d => lenF [d]) :=
  ⟨PE.weak (pe_callB call_len hg hm PySem.boot_len (pa_cons (pe_var hN hv hd hcd) pa_nil he) (by decide) (by decide) he) fun σ H Q ⟨G, q⟩ => by
    obtain ⟨v, d, e, h1, h2, h3, gs, B, a, G0, r, k⟩ := run_look q
    refine ⟨v, h1, ?_⟩
    rw [hK]
    cases d with
    | lst xs =>
      cases h3
      obtain ⟨p, vs, rfl, hp, rr⟩ := h2.lst gs
      exact ⟨_, _, rfl, .inl ⟨_, .of hp, rfl⟩, by rw [rr.length]; exact k H G .refl r _ (.int _)⟩
    | tup xs =>
      exact o_len W σ H G [v] [.tup xs] Q (.cons (h2.has (fun _ z => nomatch z)) .nil) ⟨B, G0, a, r, by unfold lft; rw [h3]; exact k⟩
    | scr xs =>
      exact o_len W σ H G [v] [.scr xs] Q (.cons (h2.has (fun _ z => nomatch z)) .nil) ⟨B, G0, a, r, by unfold lft; rw [h3]; exact k⟩
    | str xs =>
      exact o_len W σ H G [v] [.str xs] Q (.cons (h2.has (fun _ z => nomatch z)) .nil) ⟨B, G0, a, r, by unfold lft; rw [h3]; exact k⟩
    | _ => cases h3⟩
/-- x[e] -/
theorem d_ixO (i : Nat) {e : Expr} {m : M D} (hK : X.K = C.K) (h : DE X C W e m) (hN : X.N[i]? = some x := by rfl) (hv : Vis X.env.scope x := by first | exact Or.inl rfl | exact Or.inr (Or.inl rfl) | exact Or.inr (Or.inr rfl)) (hd : (x == ("__debug__" : Str)) = false := by decide)
    (hcd : (x == ("__classdict__" : Str)) = false := by decide) (hs : PlainIx e := by exact fun _ _ => rfl) : DE X C W (.Subscript (.Name x p) e pos) (chk i (m.bind fun j => look i fun d => ixF d j)) :=
  ⟨PE.weak (pe_ix ix_seq (pe_var hN hv hd hcd) h.pe hs) fun σ H Q ⟨G, q⟩ => by
    obtain ⟨⟨v, hv⟩, q⟩ := run_chk q
    refine ⟨v, hv, G, run_imp (run_bind q) fun _ _ H1 G1 j g q u hu => ?_⟩
    obtain ⟨v', d, e, h1, h2, h3, gs, B, a, G0, r, k⟩ := run_look q
    rw [hv] at h1
    cases h1
    rw [hK]
    by_cases hl : ∃ xs, d = .lst xs
    · obtain ⟨xs, rfl⟩ := hl
      obtain ⟨p, vs, rfl, hp, rr⟩ := h2.lst gs
      cases j with
      | int n =>
        cases hu
        obtain ⟨w, w1, w2⟩ := atI_has rr h3
        exact .inl ⟨_, _, n, w, rfl, rfl, .of hp, w1, k H1 G1 .refl r _ w2⟩
      | _ => cases h3
    · exact o_ix W σ H1 G1 v u d j Q (h2.has fun xs z => hl ⟨xs, z⟩) hu ⟨B, G0, a, r, by unfold lft; rw [h3]; exact k⟩⟩
/-- x == e, x != e -/
theorem o_eqH {σ : DL.St} {H G : Hp} {v u : V} {d j : D} {neg : Bool} {Q : VK} {e : D} (h2 : Hs C G H v d) (hu : Hs C G H u j) (gs : Sub C G H) (h3 : (if neg = true then neF d j else eqF d j) = some e) (k : ∀ v, Has C G v e → Q v H) :
    if neg = true then rNeD C.K v u H Q else rEqD C.K v u H Q := by
  cases neg with
  | true =>
    rw [if_pos rfl] at h3 ⊢
    obtain ⟨e1, e2⟩ := ite_some h3
    subst e2
    rw [Bool.and_eq_true] at e1
    exact ⟨_, _, h2.dp gs e1.1, hu.dp gs e1.2, lvl_shaped e1.1, lvl_shaped e1.2, k _ (.bl _)⟩
  | false =>
    rw [if_neg Bool.false_ne_true] at h3 ⊢
    obtain ⟨e1, e2⟩ := ite_some h3
    subst e2
    rw [Bool.and_eq_true] at e1
    exact ⟨_, _, h2.dp gs e1.1, hu.dp gs e1.2, lvl_shaped e1.1, lvl_shaped e1.2, k _ (.bl _)⟩
theorem d_eqO (i : Nat) {e : Expr} {m : M D} (hK : X.K = C.K) (hu : X.A.units + 64 < cLine) (h : DE X C W e m) (hN : X.N[i]? = some x := by rfl) (hv : Vis X.env.scope x := by first | exact Or.inl rfl | exact Or.inr (Or.inl rfl) | exact Or.inr (Or.inr rfl)) (hd : (x == ("__debug__" : Str)) = false := by decide)
    (hcd : (x == ("__classdict__" : Str)) = false := by decide) : DE X C W (.Compare (.Name x p) [.Eq] [e] pos) (chk i (m.bind fun j => look i fun d => eqF d j)) :=
  ⟨PE.weak (pe_cmpR (op_eqD hu) (pe_var hN hv hd hcd) h.pe (nomark _)) fun σ H Q ⟨G, q⟩ => by
    obtain ⟨⟨v, hv⟩, q⟩ := run_chk q
    refine ⟨v, hv, G, run_imp (run_bind q) fun _ _ H1 G1 j g q u hu => ?_⟩
    obtain ⟨v', d, e, h1, h2, h3, gs, B, a, G0, r, k⟩ := run_look q
    rw [hv] at h1
    cases h1
    rw [hK]
    exact o_eqH (σ := σ) (neg := false) h2 (.inl hu) gs h3 (k H1 G1 .refl r)⟩
theorem d_neO (i : Nat) {e : Expr} {m : M D} (hK : X.K = C.K) (hu : X.A.units + 64 < cLine) (h : DE X C W e m) (hN : X.N[i]? = some x := by rfl) (hv : Vis X.env.scope x := by first | exact Or.inl rfl | exact Or.inr (Or.inl rfl) | exact Or.inr (Or.inr rfl)) (hd : (x == ("__debug__" : Str)) = false := by decide)
    (hcd : (x == ("__classdict__" : Str)) = false := by decide) : DE X C W (.Compare (.Name x p) [.NotEq] [e] pos) (chk i (m.bind fun j => look i fun d => neF d j)) :=
  ⟨PE.weak (pe_cmpR (op_neD hu) (pe_var hN hv hd hcd) h.pe (nomark _)) fun σ H Q ⟨G, q⟩ => by
    obtain ⟨⟨v, hv⟩, q⟩ := run_chk q
    refine ⟨v, hv, G, run_imp (run_bind q) fun _ _ H1 G1 j g q u hu => ?_⟩
    obtain ⟨v', d, e, h1, h2, h3, gs, B, a, G0, r, k⟩ := run_look q
    rw [hv] at h1
    cases h1
    rw [hK]
    exact o_eqH (σ := σ) (neg := true) h2 (.inl hu) gs h3 (k H1 G1 .refl r)⟩
/-- a value that is a bool, as a test (for comparisons of an own list) -/
theorem dt_cmpV {op : CmpOp} {a b : Expr} {m : M D} (h : DE X C W (.Compare a [op] [b] pos) m) (he : ∀ whole, isTrue (.Compare a [op] [b] pos) X.env whole = (do let v ← whole; standAt (Expr.Compare a [op] [b] pos).pos; holding [v] (truthy v)) := by intro _; rfl) : DT X C W (.Compare a [op] [b] pos) (mB m) := dt_val h he

/-! changed in place -/
def eMut (i : Nat) (f : List D → List D → Option (D × List D)) (m : M (List D)) : M D := fun a => match a[i]? with
  | some (.own _) => (m.bind fun ds a1 => match a1[i]? with
    | some (.own xs) => (match f xs ds with
      | some (d, ys) => R.ok d (a1.set i (.own ys))
      | none => .bad)
    | _ => .bad) a
  | _ => .bad
def MutR (C : Cf) (r : V → List V → Hp → VK → Prop) (f : List D → List D → Option (D × List D)) : Prop :=
  ∀ (H G : Hp) (p : Addr) (vs : List V) (xs : List D) (ws : List V) (ds : List D) (d : D) (ys : List D) (Q : VK), H p = some (.lst vs) → Sub C G H → G p = none → HasAll C G vs xs → HasAll C G ws ds → f xs ds = some (d, ys) →
    (∀ v zs, Has C G v d → HasAll C G zs ys → Q v (upd H p (.lst zs))) → r (.ref p) ws H Q
theorem d_mut (i : Nat) {name : Str} {id : String} {r : V → List V → Hp → VK → Prop} {f : List D → List D → Option (D × List D)} {e : Expr} {es : List Expr} {m : M (List D)} (hK : X.K = C.K) (slot : PySem.Slot "list" name id) (hty : typeOf (.builtin id) = pure (.type "method_descriptor")) (hm : MtR X id r) (hr : MutR C r f) (ha : DA X C W (e :: es) m)
    (hN : X.N[i]? = some x := by rfl) (hv : Vis X.env.scope x := by first | exact Or.inl rfl | exact Or.inr (Or.inl rfl) | exact Or.inr (Or.inr rfl)) (hd : (x == ("__debug__" : Str)) = false := by decide) (hcd : (x == ("__classdict__" : Str)) = false := by decide)
    (hbase : attributeBase (.Name x p) name X.env (eval (.Name x p) X.env) = eval (.Name x p) X.env := by rfl)
    (hfew : ((backTo cpos (starEach (e :: es) X.env)).all (fun x => !x.1) && (backToKw cpos (keywordEach [] X.env)).all (fun x => x.1.isSome)
      && decide ((e :: es).length + ([] : List Keyword).length + (if ([] : List Keyword).isEmpty then 0 else 1) < 30)) = true := by rfl)
    (hline : (apos.endLine == cpos.line) = true := by rfl) (hs : starEach (e :: es) X.env = (false, eval e X.env) :: starEach es X.env := by rfl) (hplain : (backTo cpos (starEach es X.env)).any (·.1) = false := by rfl) :
    DE X C W (.Call (.Attribute (.Name x p) name apos) (e :: es) [] cpos) (eMut i f m) := by
  refine ⟨PE.weak (pe_bm PySem.F.plainAttrs_list slot hty hm (pe_var hN hv hd hcd) ha.pa hbase hfew hline hs hplain) fun σ H Q ⟨G, q⟩ => ?_⟩
  obtain ⟨B, G0, a, r0, q⟩ := q
  unfold eMut at q
  cases e0 : a[i]? with
  | none => rw [e0] at q; exact q.elim
  | some s =>
    rw [e0] at q
    cases s with
    | own xs0 =>
      obtain ⟨p0, o, h1, h2, h3, h4, h5⟩ := r0.slot i _ e0
      cases o with
      | lst vs0 =>
        refine ⟨.ref p0, h1, .inl ⟨rfl, _, .of h2⟩, G, ?_⟩
        have q : run C W (m.bind fun ds a1 => match a1[i]? with
          | some (.own xs) => (match f xs ds with
            | some (d, ys) => R.ok d (a1.set i (.own ys))
            | none => .bad)
          | _ => .bad) σ H G (kD C Q) := ⟨B, G0, a, r0, q⟩
        refine run_imp (run_bind q) fun _ _ H1 G1 ds g1 q1 ws hws => ?_
        obtain ⟨B, G0, a, r1, q1⟩ := q1
        dsimp only at q1
        cases e1 : a[i]? with
        | none => rw [e1] at q1; exact q1.elim
        | some s =>
          rw [e1] at q1
          cases s with
          | own xs =>
            obtain ⟨p1, o, w1, w2, w3, w4, w5⟩ := r1.slot i _ e1
            rw [h1] at w1
            cases w1
            cases o with
            | lst vs =>
              cases ef : f xs ds with
              | none => simp only [ef] at q1
              | some dy =>
                obtain ⟨d, ys⟩ := dy
                simp only [ef] at q1
                exact hr H1 G1 p0 vs xs ws ds d ys Q w2 r1.gh w4 w3 hws ef fun v zs hv hz => q1 _ G1 .refl (r1.write (o := .lst vs) (o' := .lst zs) e1 rfl h1 hz) v hv
            | _ => exact w3.elim
          | _ => exact q1.elim
      | _ => exact h3.elim
    | _ => exact q.elim
def appF : List D → List D → Option (D × List D)
  | xs, [d] => if sz (xs.length + 1) = true then some (.non, xs ++ [d]) else none
  | _, _ => none
theorem sz_lt {n : Nat} (h : sz (n + 1) = true) : n < sizeLine := by
  have h := of_decide_eq_true h
  rw [sizeLine_eq]; omega
theorem mu_app : MutR C rAppend appF := by
  intro H G p vs xs ws ds d ys Q hp gs hG r rw' e k
  unfold appF at e
  split at e
  · split at e
    · rename_i hz
      cases e
      obtain ⟨w, rfl, hw⟩ := rw'.one
      exact ⟨p, vs, w, rfl, rfl, hp, by rw [r.length]; exact sz_lt hz, k .non _ .non (r.append (.cons hw .nil))⟩
    · cases e
  · cases e
def extF : List D → List D → Option (D × List D)
  | xs, [.lst ys] => if sz (xs.length + ys.length) = true then some (.non, xs ++ ys) else none
  | _, _ => none
theorem mu_ext : MutR C rExtend extF := by
  intro H G p vs xs ws ds d ys Q hp gs hG r rw' e k
  unfold extF at e
  split at e
  · split at e
    · rename_i hz
      cases e
      obtain ⟨w, rfl, hw⟩ := rw'.one
      cases hw with
      | lst hs r2 => exact ⟨p, _, vs, _, rfl, rfl, hp, gs.lst hs, by rw [r.length, r2.length]; exact sz_ok hz, k .non _ .non (r.append r2)⟩
    · cases e
  · cases e
def popF : List D → List D → Option (D × List D)
  | xs, [.int i] => if smallI i = true then (ixN xs.length i).bind fun j => xs[j]?.map fun d => (d, xs.eraseIdx j) else none
  | _, _ => none
theorem mu_pop : MutR C rPopAt popF := by
  intro H G p vs xs ws ds d ys Q hp gs hG r rw' e k
  unfold popF at e
  split at e
  · rename_i n
    split at e
    · rename_i hz
      have hn : -(2 ^ 62) ≤ n ∧ n < 2 ^ 62 := of_decide_eq_true hz
      obtain ⟨j, e1, e2⟩ := Option.bind_eq_some_iff.mp e
      obtain ⟨d', e3, e4⟩ := Option.map_eq_some_iff.mp e2
      cases e4
      obtain ⟨w, rfl, hw⟩ := rw'.one
      cases hw
      obtain ⟨v, h1, h2⟩ := r.get e3
      exact ⟨p, vs, n, j, v, rfl, rfl, hp, by omega, by omega, by rw [r.length]; exact (ixN_seq e1).1, h1, k v _ h2 (r.eraseIdx j)⟩
    · cases e
  · cases e
end
end DL
end
section
set_option Elab.async false
set_option linter.all false
set_option maxRecDepth 100000
namespace DL
open PySem PySem.Spec PyProof.Rows L2
section
variable {C : Cf}
/-! ### in, index, count -/
theorem eqv_ii (i j : Int) : PyData.eqv (.int i) (.int j) = decide (i = j) := by
  unfold PyData.eqv
  by_cases e : i = j
  · subst e; simp
  · rw [decide_eq_false e]; exact beq_eq_false_iff_ne.mpr e
def anyEq (d : D) (xs : List D) : Bool := (toPs xs).any fun z => PyData.eqv z (toP d)
def inF (d e : D) : Option D := match e with
  | .lst xs => if (lvl 60 d && lvls 59 xs) = true then some (.bl (anyEq d xs)) else none
  | _ => none
def ninF (d e : D) : Option D := match e with
  | .lst xs => if (lvl 60 d && lvls 59 xs) = true then some (.bl (!anyEq d xs)) else none
  | _ => none
theorem lvls_shaped {xs : List D} (h : lvls 59 xs = true) : SeqAt.shaped (.list (toPs xs)) = true := by
  obtain ⟨h1, h2⟩ := lvls_ok 59 xs h
  unfold SeqAt.shaped PyData.canLay0 PyData.depth
  rw [h1, decide_eq_true (by omega)] <;> rfl
theorem o_in : Op2 C (rInD C.K) inF := by
  intro W σ H G x y dx dy Q hx hy q
  obtain ⟨d, e, k, _, g⟩ := op_done q
  cases dy with
  | lst xs =>
    obtain ⟨e1, e2⟩ := ite_some e
    subst e2
    rw [Bool.and_eq_true] at e1
    cases hy with
    | lst hs rr => exact ⟨_, _, dp_of g hx e1.1, .lst (.of (g.lst hs)) (dps_of g rr e1.2), lvl_shaped e1.1, lvls_shaped e1.2, k _ (.bl _)⟩
  | _ => cases e
theorem o_nin : Op2 C (rNotInD C.K) ninF := by
  intro W σ H G x y dx dy Q hx hy q
  obtain ⟨d, e, k, _, g⟩ := op_done q
  cases dy with
  | lst xs =>
    obtain ⟨e1, e2⟩ := ite_some e
    subst e2
    rw [Bool.and_eq_true] at e1
    cases hy with
    | lst hs rr => exact ⟨_, _, dp_of g hx e1.1, .lst (.of (g.lst hs)) (dps_of g rr e1.2), lvl_shaped e1.1, lvls_shaped e1.2, k _ (.bl _)⟩
  | _ => cases e
def idxOf (d : D) : List D → Option Nat
  | [] => none
  | x :: xs => if eqd x d = true then some 0 else (idxOf d xs).map (· + 1)
theorem idxOf_ok {d : D} : ∀ {xs : List D} {j : Nat}, idxOf d xs = some j → ∃ z, (toPs xs)[j]? = some z ∧ PyData.eqv z (toP d) = true ∧ ∀ (m : Nat) (z' : PyData), m < j → (toPs xs)[m]? = some z' → PyData.eqv z' (toP d) = false
  | [], _, h => by cases h
  | x :: xs, j, h => by
    unfold idxOf at h
    unfold toPs
    split at h
    · rename_i e
      cases h
      exact ⟨toP x, rfl, e, fun m z' hm => absurd hm (Nat.not_lt_zero m)⟩
    · rename_i e
      obtain ⟨k, hk, rfl⟩ := Option.map_eq_some_iff.mp h
      obtain ⟨z, h1, h2, h3⟩ := idxOf_ok hk
      refine ⟨z, h1, h2, fun m z' hm hz => ?_⟩
      cases m with
      | zero =>
        have hz : some (toP x) = some z' := hz
        cases hz
        exact Bool.eq_false_iff.mpr e
      | succ m => exact h3 m z' (by omega) hz
/-- methods of a value, by what they say of data -/
def OpM (C : Cf) (r : V → List V → Hp → VK → Prop) (F : D → List D → Option D) : Prop :=
  ∀ (W : WX) (σ : DL.St) (H G : Hp) (x : V) (dx : D) (ws : List V) (ds : List D) (Q : VK), Has C G x dx → HasAll C G ws ds → run C W (lft (F dx ds)) σ H G (kD C Q) → r x ws H Q
def indexF (d : D) (ds : List D) : Option D := match d, ds with
  | .lst xs, [e] => if (lvl 60 e && lvls 59 xs) = true then (idxOf e xs).map fun j => .int (j : Nat) else none
  | _, _ => none
theorem o_index : OpM C (rIndexD C.K) indexF := by
  intro W σ H G x dx ws ds Q hx hw q
  obtain ⟨d, e, k, _, g⟩ := op_done q
  unfold indexF at e
  split at e
  · split at e
    · rename_i h
      rw [Bool.and_eq_true] at h
      obtain ⟨j, e1, e2⟩ := Option.map_eq_some_iff.mp e
      subst e2
      obtain ⟨w, rfl, hy⟩ := hw.one
      obtain ⟨z, h1, h2, h3⟩ := idxOf_ok e1
      cases hx with
      | lst hs rr => exact ⟨_, w, _, _, j, z, rfl, rfl, .lst (.of (g.lst hs)) (dps_of g rr h.2), dp_of g hy h.1, lvls_shaped h.2, lvl_shaped h.1, h1, h2, h3, k _ (.int _)⟩
    · cases e
  · cases e
def countF (d : D) (ds : List D) : Option D := match d, ds with
  | .lst xs, [.int j] => (asIs xs).map fun ns => .int (ns.count j : Nat)
  | _, _ => none
theorem o_count : OpM C (rCntI C.K) countF := by
  intro W σ H G x dx ws ds Q hx hw q
  obtain ⟨d, e, k, _, g⟩ := op_done q
  unfold countF at e
  split at e
  · rename_i j
    obtain ⟨ns, e1, e2⟩ := Option.map_eq_some_iff.mp e
    subst e2
    obtain ⟨w, rfl, hy⟩ := hw.one
    cases hy
    cases hx with
    | lst hs rr =>
      rw [asIs_ok e1] at rr
      rw [HasAll.ints rr] at hs
      exact ⟨_, ns, j, rfl, rfl, .of (g.lst hs), k _ (.int _)⟩
  · cases e
def tyM (T : String) : D → Bool
  | .lst _ => T == "list"
  | .str _ => T == "str"
  | _ => false
theorem tyM_ok {G H : Hp} {T : String} {v : V} {d : D} (g : Sub C G H) (h : Has C G v d) (e : tyM T d = true) : tyV C.K T v H := by
  cases d with
  | lst xs =>
    have e : T = "list" := by simpa [tyM] using e
    subst e
    cases h with
    | lst hs r => exact .inl ⟨rfl, _, .of (g.lst hs)⟩
  | str z =>
    have e : T = "str" := by simpa [tyM] using e
    subst e
    cases h
    rfl
  | _ => cases e
end
section
variable {X : Cx} {C : Cf} {W : WX} {pos p apos cpos : Pos}
def eM (T : String) (F : D → List D → Option D) (m : M D) (n : M (List D)) : M D := m.bind fun d => match tyM T d with
  | true => n.bind fun ds => lft (F d ds)
  | false => lft none
theorem d_bm {T : String} {name : Str} {id : String} {r : V → List V → Hp → VK → Prop} {F : D → List D → Option D} {o e : Expr} {es : List Expr} {m : M D} {n : M (List D)} (hK : X.K = C.K) (pa : PlainAttrs T) (slot : PySem.Slot T name id) (hty : typeOf (.builtin id) = pure (.type "method_descriptor")) (hm : MtR X id r) (hF : OpM C r F) (ho : DE X C W o m) (ha : DA X C W (e :: es) n)
    (hbase : attributeBase o name X.env (eval o X.env) = eval o X.env := by rfl)
    (hfew : ((backTo cpos (starEach (e :: es) X.env)).all (fun x => !x.1) && (backToKw cpos (keywordEach [] X.env)).all (fun x => x.1.isSome)
      && decide ((e :: es).length + ([] : List Keyword).length + (if ([] : List Keyword).isEmpty then 0 else 1) < 30)) = true := by rfl)
    (hline : (apos.endLine == cpos.line) = true := by rfl) (hs : starEach (e :: es) X.env = (false, eval e X.env) :: starEach es X.env := by rfl) (hplain : (backTo cpos (starEach es X.env)).any (·.1) = false := by rfl) :
    DE X C W (.Call (.Attribute o name apos) (e :: es) [] cpos) (eM T F m n) :=
  ⟨PE.weak (pe_bm pa slot hty hm ho.pe ha.pa hbase hfew hline hs hplain) fun σ H Q ⟨G, q⟩ => ⟨G, run_imp (run_bind q) fun _ _ H1 G1 d g q v hv => by
    cases ht : tyM T d with
    | false =>
      rw [ht] at q
      obtain ⟨_, e, _⟩ := run_lft q
      cases e
    | true =>
      rw [ht] at q
      have gs : Sub C G1 H1 := by obtain ⟨_, _, _, r, _⟩ := q; exact r.gh
      exact ⟨by rw [hK]; exact tyM_ok gs hv ht, G1, run_imp (run_bind q) fun _ _ H2 G2 ds g2 q2 ws hws => hF W σ H2 G2 v d ws ds Q (hv.mono g2) hws q2⟩⟩⟩
/-! ### raise -/
structure XC (K : PySem.W.Frag) (mg : Str → Option Value) (x : Str) (a : Addr) : Prop where
  g : mg x = some (.ref a)
  q : PySem.W.excIn K a [.type "ValueError", .type "Exception", .type "BaseException", .type "object"] "ValueError.__new__" = true
  k : PySem.W.keepIn K (.ref a) = true
  s : PySem.W.subIn K (.ref a) (.type "BaseException") = some true
  t : PySem.W.typeIn K (.ref a) = some (.type "type")
theorem d_raise {x m : Str} {c j : Nat} {p2 pos2 : Pos} (hc : X.calm = true) (tk : Takes X W) (T : XC X.K X.mg x (C.xa c)) (hg : Gl X x := by rfl) (hdb : (x == ("__debug__" : Str)) = false := by decide) :
    DS X C W (.Raise (some (.Call (.Name x p) [.Constant (.str m) j p2] [] pos)) none pos2) (RS.exc c) :=
  ⟨PS.weak (ps_raise hc tk (pmk_own PySem.F.excBase_ValueError T.q T.g T.k (raises_own T.s T.t) hg hdb)) fun Dn σ H ⟨G, B, G0, a, r, q⟩ => q σ H G .refl r⟩
end
end DL
end
section
set_option Elab.async false
set_option linter.all false
set_option maxRecDepth 100000
namespace DL
open PySem PySem.Spec PyProof.Rows L2
/-! ### operators of several kinds of things -/
theorem opOr {X : Cx} {f : Value → Value → Sem Value} {r r' : R2} (h : OpR X f r) (h' : OpR X f r') : OpR X f (fun x y H Q => r x y H Q ∨ r' x y H Q) := by
  intro pins s σ H x y v u Q I rx ry q
  rcases q with q | q
  · exact h pins s σ H x y v u Q I rx ry q
  · exact h' pins s σ H x y v u Q I rx ry q
theorem hu65_of {A : Around} {k : Nat} (hr : Room k A) : A.units + 65 < cLine := by have := hr.un; omega
section
variable {X : Cx} {C : Cf} {W : WX} {pos p : Pos}
def rAddX (K : PySem.W.Frag) : R2 := fun x y H Q => rI0 (fun i j => .int (i + j)) x y H Q ∨ (rCatA K x y H Q ∨ (rCat x y H Q ∨ (∃ i j, x = .str i ∧ y = .str j ∧ i.length + j.length ≤ sizeLine ∧ Q (.str (i ++ j)) H)))
theorem op_addX : OpR X (binaryOp .Add) (rAddX X.K) := opOr op_add (opOr op_catA (opOr op_cat op_add_str))
def addF : D → D → Option D
  | .int i, .int j => some (.int (i + j))
  | .tup xs, .tup ys => if sz (xs.length + ys.length) = true then some (.tup (xs ++ ys)) else none
  | .lst xs, .lst ys => if sz (xs.length + ys.length) = true then some (.lst (xs ++ ys)) else none
  | .str x, .str y => if sz (x.length + y.length) = true then some (.str (x ++ y)) else none
  | _, _ => none
theorem o_addX : Op2 C (rAddX C.K) addF := by
  intro W σ H G x y dx dy Q hx hy q
  have q' := q
  obtain ⟨d, e, k, k2, g⟩ := op_done q
  unfold addF at e
  split at e
  · exact .inl (o_add W σ H G x y _ _ Q hx hy q')
  · exact .inr (.inl (o_catT W σ H G x y _ _ Q hx hy q'))
  · exact .inr (.inr (.inl (o_catL W σ H G x y _ _ Q hx hy q')))
  · obtain ⟨hz, e⟩ := ite_some e
    subst e
    cases hx
    cases hy
    exact .inr (.inr (.inr ⟨_, _, rfl, rfl, sz_ok hz, k _ (.str _)⟩))
  · cases e
theorem d_const {x : Str} {n : Int} (h : ∃ t, X.mg x = some (Value.int n t)) (hg : Gl X x := by rfl) (hd : (x == ("__debug__" : Str)) = false := by decide) : DE X C W (.Name x pos) (eC (.int n)) := by
  obtain ⟨t, h⟩ := h
  exact d_glob (v := .int n) hg h ⟨t, rfl⟩ (fun _ => .int n) hd
theorem un_neg' : UnR X (unaryOp .USub) (rU fun i => .int (-i)) := un_neg
/-- x = list(..), for a slot that will change it -/
def lstO : List D → Option (List D)
  | [.tup xs] => some xs
  | [.lst xs] => some xs
  | _ => none
theorem df_list {e : Expr} {m : M (List D)} (hK : X.K = C.K) (hm : X.mg "list" = none) (ha : DA X C W [e] m) (hg : Gl X "list" := by rfl) (he : starEach [e] X.env = (false, eval e X.env) :: starEach [] X.env := by rfl) (hpl : (backTo pos (starEach [] X.env)).any (·.1) = false := by rfl) :
    DF X C W Slot.own (.Call (.Name "list" p) [e] [] pos) (m.bind fun ds => lft (lstO ds)) :=
  ⟨PE.weak (pe_callTy call_list_of hg hm (by decide +kernel) ha.pa (by decide) (by decide) he hpl) fun σ H Q ⟨G, q⟩ => ⟨G, run_imp (run_bind q) fun _ _ H1 G1 ds g q vs hvs => by
    obtain ⟨xs, e, B, G0, a, r, k⟩ := run_lft q
    rw [hK]
    unfold lstO at e
    split at e
    · cases e
      obtain ⟨v, rfl, h1⟩ := hvs.one
      cases h1 with
      | tup hs rr => exact ⟨_, _, rfl, .inr ((Sub.grow (C := C) r.gh).sqT hs), fun l n => k H1 G1 .refl r l _ _ upd_same rr (r.gh.free n) (r.bh.free n) (r.lone n) (.laid r.gh n)⟩
    · cases e
      obtain ⟨v, rfl, h1⟩ := hvs.one
      cases h1 with
      | lst hs rr => exact ⟨_, _, rfl, .inl (.of (r.gh.lst hs)), fun l n => k H1 G1 .refl r l _ _ upd_same rr (r.gh.free n) (r.bh.free n) (r.lone n) (.laid r.gh n)⟩
    · cases e⟩⟩
end
end DL
end
section
set_option Elab.async false
set_option linter.all false
set_option maxRecDepth 100000
set_option maxHeartbeats 4000000
namespace DL
open PySem PySem.Spec PyProof.Rows L2
/-! ### a tuple times a number -/
theorem tup_mulSame (l : Addr) (items : Array Value) (n : Nat) (dd : Option Addr) (sl : Array (Option Value)) (x : Int) (u : Tok) (c0 : (decide (x < -(2 ^ 63)) || decide (x ≥ 2 ^ 63)) = false) (c1 : (items.isEmpty || x == 1) = true) :
    Meets (Builtin.«tuple.__mul__» ⟨[.ref l, .int x u], []⟩) (fun _ R s => s.heap.get? l = some { cls := .type "tuple", dict := dd, data := .seq items n, slots := sl } ∧ R (.ok (.ret (Value.ref l))) s) :=
  .of_wp fun prog w A R s h => by
    obtain ⟨hp, g, d, tk, os⟩ := s
    obtain ⟨hl, h⟩ := h
    have f1 := AutoSeq1.idx_int
    wp_walk using wpAny_loadPart' hl
    refine wpAny_ite_false (decide_eq_false (by rw [c0]; exact Bool.false_ne_true)) ?_
    wp_walk using wpAny_loadPart' hl
    exact ⟨_, rfl, h⟩
theorem tup_mulNone (l : Addr) (items : Array Value) (n : Nat) (dd : Option Addr) (sl : Array (Option Value)) (x : Int) (u : Tok) (c0 : (decide (x < -(2 ^ 63)) || decide (x ≥ 2 ^ 63)) = false) (c1 : (items.isEmpty || x == 1) = false) (c2 : (decide (x ≤ 0) || items.isEmpty) = true) :
    Meets (Builtin.«tuple.__mul__» ⟨[.ref l, .int x u], []⟩) (fun _ R s => s.heap.get? l = some { cls := .type "tuple", dict := dd, data := .seq items n, slots := sl } ∧
      R (.ok (.ret (Value.ref s.heap.objs.size))) { s with heap := s.heap.push { cls := Value.type "tuple", data := Data.seq #[] }, toks := s.toks }) :=
  .of_wp fun prog w A R s h => by
    obtain ⟨hp, g, d, tk, os⟩ := s
    obtain ⟨hl, h⟩ := h
    have f1 := AutoSeq1.idx_int
    wp_walk using wpAny_loadPart' hl
    refine wpAny_ite_false (decide_eq_false (by rw [c0]; exact Bool.false_ne_true)) ?_
    wp_walk using wpAny_loadPart' hl
    exact ⟨_, rfl, h⟩
section
variable {X : Cx} {C : Cf}
def rRepX (K : PySem.W.Frag) : R2 := fun x y H Q => ∃ l k xs, x = .ref l ∧ y = .int k ∧ SqT K H l xs ∧ -1000 ≤ k ∧ k ≤ 1000 ∧ xs.length ≤ 1000 ∧ ((xs = [] ∨ k = 1) → Q (.ref l) H) ∧ (xs ≠ [] → k ≠ 1 → ∀ p, H p = none → Q (.ref p) (upd H p (.tup (List.replicate k.toNat xs).flatten)))
theorem op_repTA : OpR X (binaryOp .Mult) (rRepX X.K) := by
  intro pins s σ H x y v u Q I rx ry h
  obtain ⟨l, k, xs, rfl, rfl, hT, h1, h2, hz, q1, q2⟩ := h
  have rx' := rx
  have ry' := ry
  cases rx
  obtain ⟨t, rfl⟩ := ry
  obtain ⟨its, r, ht0, hs⟩ := I.tuple hT
  obtain ⟨⟨cls, dd, data, sl⟩, ho, hc, n, hd⟩ := id ht0
  simp only at hc hd
  subst hc hd
  have hle : its.length = xs.length := r.length.symm
  have c0 : (decide (k < -(2 ^ 63)) || decide (k ≥ 2 ^ 63)) = false := by
    rw [decide_eq_false (by omega), decide_eq_false (by omega)] <;> rfl
  have emp : its.toArray.isEmpty = xs.isEmpty := by
    cases its with
    | nil => cases xs with
      | nil => rfl
      | cons _ _ => cases hle
    | cons _ _ => cases xs with
      | nil => cases hle
      | cons _ _ => rfl
  have go : ∀ {Q' : Value → Shared → Prop}, wpAny (model X.prog X.w) X.A (call (.builtin "tuple.__mul__") [.ref l, .int k t]) Q' X.xe s → wpAny (model X.prog X.w) X.A (binaryOp .Mult (.ref l) (.int k t)) Q' X.xe s := fun hcall =>
    wpAny_binaryOp_repeat_ref (T := "tuple") (U := "int") (by decide) ⟨_, ho, rfl⟩ (fun s' => typeIs_int s' k t) noFill_tuple_mul F.fills_int_mul F.slot_int_rmul repeat_tuple F.slot_int_index.lookup
      (call_meets F.slot_int_rmul (typeIs_int s k t) F.entry_int_rmul (F.args_int_rmul_2 _ _) (int_rmul_tuple k t l its.toArray n dd sl) ⟨ho, rfl, ⟨_, ho, rfl⟩, hcall⟩)
  by_cases hsame : (xs.isEmpty || k == 1) = true
  · refine go (call_meets F.slot_tuple_mul ⟨_, ho, rfl⟩ F.entry_tuple_mul (F.args_tuple_mul_2 _ _) (tup_mulSame l its.toArray n dd sl k t c0 (by rw [emp]; exact hsame)) ⟨ho, ?_⟩)
    refine ⟨.ref l, H, I, rfl, q1 ?_⟩
    rcases Bool.or_eq_true_iff.mp hsame with e | e
    · exact .inl (List.isEmpty_iff.mp e)
    · exact .inr (by simpa using e)
  · have hsame : (xs.isEmpty || k == 1) = false := Bool.eq_false_iff.mpr hsame
    have e1 : xs ≠ [] := fun e => by subst e; simp at hsame
    have e2 : k ≠ 1 := fun e => by subst e; simp at hsame
    by_cases hk : k ≤ 0
    · refine go (call_meets F.slot_tuple_mul ⟨_, ho, rfl⟩ F.entry_tuple_mul (F.args_tuple_mul_2 _ _) (tup_mulNone l its.toArray n dd sl k t c0 (by rw [emp]; exact hsame) (by rw [decide_eq_true hk] <;> rfl)) ⟨ho, ?_⟩)
      have e0 : (List.replicate k.toNat xs).flatten = [] := by
        have : k.toNat = 0 := by omega
        rw [this] <;> rfl
      have q := q2 e1 e2 s.heap.objs.size I.fresh
      rw [e0] at q
      exact ⟨.ref s.heap.objs.size, _, I.laid (t' := s.toks) (o := .tup []) (fun b ob q => Heap.get?_push_of_some _ q) (Nat.le_refl _) ⟨Nat.zero_le _, [], .nil, IsTup.new _ _⟩, rfl, q⟩
    · exact op_repT pins s σ H _ _ _ _ Q I rx' ry' ⟨l, k, xs, rfl, rfl, hT, e1, by omega, h2, hz, q2 e1 e2⟩
def repTF : D → D → Option D
  | .tup xs, .int k => if (decide (-1000 ≤ k ∧ k ≤ 1000) && decide (xs.length ≤ 1000)) = true then some (.tup (List.replicate k.toNat xs).flatten) else none
  | _, _ => none
theorem rep_one {α : Type} {xs : List α} {k : Int} (h : xs = [] ∨ k = 1) : (List.replicate k.toNat xs).flatten = xs := by
  rcases h with h | h
  · subst h
    have f : ∀ n : Nat, (List.replicate n ([] : List α)).flatten = [] := fun n => by
      induction n with
      | zero => rfl
      | succ n ih => rw [List.replicate_succ, List.flatten_cons, ih] <;> rfl
    exact f _
  · subst h
    show (List.replicate 1 xs).flatten = xs
    simp
theorem o_repT : Op2 C (rRepX C.K) repTF := by
  intro W σ H G x y dx dy Q hx hy q
  obtain ⟨d, e, k, k2, g⟩ := op_done q
  unfold repTF at e
  split at e
  · rename_i xs n
    obtain ⟨hz, e⟩ := ite_some e
    subst e
    rw [Bool.and_eq_true] at hz
    have h1 := of_decide_eq_true hz.1
    have h2 := of_decide_eq_true hz.2
    cases hy
    have hx' := hx
    cases hx with
    | tup hs rr =>
      refine ⟨_, n, _, rfl, rfl, (Sub.grow (C := C) g).sqT hs, h1.1, h1.2, by rw [rr.length]; exact h2, fun hh => k _ ?_, fun _ _ p m => k2 p _ m rfl (.tup (.of upd_same) ((rr.rep _).mono (.new (g.free m))))⟩
      have hh' : xs = [] ∨ n = 1 := by
        rcases hh with hh | hh
        · subst hh
          cases rr
          exact .inl rfl
        · exact .inr hh
      rw [rep_one hh']
      exact hx'
  · cases e
end
end DL
end
section
set_option Elab.async false
set_option linter.all false
set_option maxRecDepth 100000
set_option maxHeartbeats 4000000
namespace DL
open PySem PySem.Spec PyProof.Rows L2
section
variable {C : Cf}
/-! ### the least of three -/
def min3F : List D → Option D
  | [.int i, .int j, .int k] => some (.int (min (min i j) k))
  | _ => none
theorem ltI_nu (i j : Int) : nuLt (.int i) (.int j) = some (decide (i < j)) := rfl
theorem o_min3 : OpN C (rNuC3 nuMin3) min3F := by
  intro W σ H G vs ds Q hv q
  obtain ⟨d, e, k, _⟩ := op_done q
  unfold min3F at e
  split at e
  · rename_i a b c
    cases e
    cases hv with
    | cons h1 hv => cases hv with
      | cons h2 hv => cases hv with
        | cons h3 hv => cases hv with
          | nil =>
            cases h1; cases h2; cases h3
            refine ⟨_, _, _, .int (min (min a b) c), rfl, ?_, k _ (.int _)⟩
            unfold nuMin3 nuMin2
            rw [ltI_nu]
            by_cases h : b < a
            · rw [show min a b = b by omega]
              simp only [h, decide_true, Option.map_some, if_true, Option.bind_some, ltI_nu]
              by_cases h' : c < b
              · rw [show min b c = c by omega]; simp [h']
              · rw [show min b c = b by omega]; simp [h']
            · rw [show min a b = a by omega]
              simp only [h, decide_false, Option.map_some, Bool.false_eq_true, if_false, Option.bind_some, ltI_nu]
              by_cases h' : c < a
              · rw [show min a c = c by omega]; simp [h']
              · rw [show min a c = a by omega]; simp [h']
  · cases e
end
/-! ### list(range(..)) -/
section
variable {X : Cx} {C : Cf} {W : WX} {pos pos2 p p2 : Pos}
def lrF : D → Option D
  | .int j => if (smallI j && sz j.toNat) = true then some (.lst (rangeL 0 j.toNat)) else none
  | _ => none
theorem has_rg {G : Hp} (j : Int) : HasAll C G (rgV 0 j) (rangeL 0 j.toNat) := by
  unfold rgV rangeL
  rw [show (j - 0).toNat = j.toNat by rw [Int.sub_zero]]
  induction List.range j.toNat with
  | nil => exact .nil
  | cons i r ih => exact .cons (.int _) ih
theorem d_lrg {a : Expr} {m : M D} (hc : X.calm = true) (hml : X.mg "list" = none) (hmr : X.mg "range" = none) (ha : DE X C W a m) (hgl : Gl X "list" := by rfl) (hgr : Gl X "range" := by rfl)
    (na : starEach [.Call (.Name "range" p2) [a] [] pos2] X.env = (false, eval (.Call (.Name "range" p2) [a] [] pos2) X.env) :: starEach [] X.env := by rfl)
    (nb : starEach [a] X.env = (false, eval a X.env) :: starEach [] X.env := by rfl) : DE X C W (.Call (.Name "list" p) [.Call (.Name "range" p2) [a] [] pos2] [] pos) (e1 lrF m) :=
  ⟨PE.weak (pe_listRg hc hgl hml (prg_1 hgr hmr ha.pe nb) na) fun σ H Q ⟨G, q⟩ => ⟨G, run_imp (run_bind q) fun _ _ H1 G1 d g q v hv => by
    obtain ⟨d', e, _, k2, gs⟩ := op_done q
    cases d with
    | int j =>
      obtain ⟨hz, e⟩ := ite_some (show (if (smallI j && sz j.toNat) = true then some (.lst (rangeL 0 j.toNat)) else none) = some d' from e)
      subst e
      cases hv
      rw [Bool.and_eq_true] at hz
      have hj : -(2 ^ 62) ≤ j ∧ j < 2 ^ 62 := of_decide_eq_true hz.1
      have hz2 : j.toNat ≤ 100000 := of_decide_eq_true hz.2
      exact ⟨j, rfl, ⟨by decide, by decide, hj.1, hj.2, by omega⟩, fun p n => k2 p _ n rfl (.lst upd_same (has_rg j))⟩
    | _ => cases e⟩⟩
end
/-! ### x[::-1], x a tuple or a list -/
section
variable {prog : Program} {w : World} {A : Around} {E : Value → Shared → Prop} {s : Shared}
theorem sliceApplied_rev {sl : Addr} {vs : Value} {n : Nat} {Q : Int × Int × Nat → Shared → Prop} (hs : s.heap.IsSliceOf sl .none .none vs) (ps : IsPart vs (some (-1)))
    (h : Q ((n : Int) - 1, -1, n) s) : wpAny (model prog w) A (Builtin.Slice.sliceApplied (.ref sl) (pure (n : Int))) Q E s := by
  obtain ⟨os, hos, hcs, hds⟩ := id hs
  unfold Builtin.Slice.sliceApplied Builtin.Slice.sliceFields
  refine wpAny_bind (wpAny_bind (wpAny_field hos hds (x := .none) rfl (wpAny_bind (wpAny_field hos hds (x := .none) rfl (wpAny_bind (wpAny_field hos hds (x := vs) rfl (wpAny_pure ?_)))))))
  refine wpAny_bind (HT.slicePart_ ps ?_)
  show wpAny _ _ (if ((-1 : Int) == 0) = true then _ else _) _ _ s
  rw [if_neg (by decide)]
  refine wpAny_bind (slicePart_none (wpAny_bind (slicePart_none (wpAny_bind (wpAny_pure ?_)))))
  have e : Builtin.Slice.sliceAdjust none none (-1) (n : Int) = ((n : Int) - 1, -1) := rfl
  have e2 : Builtin.Slice.slicePlaces ((n : Int) - 1) (-1) (-1) = n := by
    unfold Builtin.Slice.slicePlaces
    simp only [show ¬ ((-1 : Int) > 0) by decide, if_false, show (- -1 : Int) = 1 by decide, Int.ediv_one]
    split <;> omega
  show wpAny _ _ (match Builtin.Slice.sliceAdjust none none (-1) (n : Int) with | (lo, hi) => pure (lo, (-1 : Int), Builtin.Slice.slicePlaces lo hi (-1))) _ _ s
  rw [e]
  show wpAny _ _ (pure ((n : Int) - 1, (-1 : Int), Builtin.Slice.slicePlaces ((n : Int) - 1) (-1) (-1))) _ _ s
  rw [e2]
  exact wpAny_pure h
theorem fm_congr {α β : Type} {f g : α → Option β} : ∀ (l : List α), (∀ x ∈ l, f x = g x) → l.filterMap f = l.filterMap g
  | [], _ => rfl
  | x :: l, h => by rw [List.filterMap_cons, List.filterMap_cons, h x List.mem_cons_self, fm_congr l fun y hy => h y (List.mem_cons_of_mem _ hy)]
theorem pick_rev (xs : Array Value) : ((List.range xs.size).filterMap fun (m : Nat) => xs[(((xs.size : Int) - 1) + (m : Int) * -1).toNat]?).toArray = xs.toList.reverse.toArray := by
  congr 1
  rw [← PySem.W.krv_all xs, ← List.filterMap_reverse, ← PySem.W.krv_range, List.filterMap_map]
  refine fm_congr _ fun m hm => ?_
  have := List.mem_range.mp hm
  show xs[_]? = xs[xs.size - 1 - m]?
  congr 1
  omega
theorem getItem_tuple_rev {t sl : Addr} {items : Array Value} {vs : Value} {Q : Value → Shared → Prop} (ht : IsTup s.heap t items) (hs : s.heap.IsSliceOf sl .none .none vs) (ps : IsPart vs (some (-1)))
    (h : Q (.ref s.heap.objs.size) { s with heap := s.heap.push { cls := .type "tuple", data := .seq items.toList.reverse.toArray } })
    (hsz : items.size ≤ sizeLine) : wpAny (model prog w) A (getItem (.ref t) (.ref sl)) Q E s := by
  have htake : sizeOk (.seq items.toList.reverse.toArray) := by
    show items.toList.reverse.toArray.size ≤ sizeLine
    rw [List.size_toArray, List.length_reverse, Array.length_toList]
    exact hsz
  obtain ⟨os, hos, hcs, hds⟩ := id hs
  have hTs : s.TypeIs (.ref sl) "slice" := ⟨os, hos, hcs⟩
  unfold getItem
  try with_reducible refine wpAny_holding ?_
  first | refine wpAny_bind (wpAny_pure ?_) | skip
  refine wpAny_bind (wpAny_sequenceKey ht.typeIs (by decide) ?_)
  refine wpAny_bind (wpAny_callSpecial?_slot (name := Str.ofString "__getitem__") ht.typeIs PyProof.Rows.slot_tuple_getitem
    (wpAny_call_entry PyProof.Rows.slot_tuple_getitem ht.typeIs entry_tuple_getitem ?_ (args_tuple_getitem _ _)))
  show wpAny _ _ (Builtin.Tuple.tupleItemsOf (.ref t) >>= _) _ _ s
  refine wpAny_bind (tupleItemsOf_ ht ?_)
  refine wpAny_bind (wpAny_typeOf hTs ?_)
  rw [if_pos (by decide)]
  refine wpAny_bind (sliceApplied_rev hs ps ?_)
  have hno : ¬ ((((items.size : Int) - 1) == 0 && (-1 : Int) == 1 && items.size == items.size) = true) := by
    rw [show ((-1 : Int) == 1) = false from rfl, Bool.and_false, Bool.false_and]
    exact Bool.false_ne_true
  show wpAny _ _ (if (((items.size : Int) - 1) == 0 && (-1 : Int) == 1 && items.size == items.size) = true then _ else _) _ _ s
  rw [if_neg hno, pick_rev]
  first
    | exact wpAny_bind (m := Builtin.Tuple.tupleExact _) (wpAny_newObj_type (wpAny_pure ⟨_, rfl, wpAny_pure h⟩) htake)
    | exact wpAny_bind (m := Builtin.Tuple.tupleExact _) (wpAny_newObj_type (wpAny_bind (wpAny_pure (wpAny_pure ⟨_, rfl, wpAny_pure h⟩))) htake)
    | exact wpAny_bind (wpAny_bind (m := Builtin.Tuple.tupleExact _) (wpAny_newObj_type (wpAny_pure (wpAny_pure ⟨_, rfl, wpAny_pure h⟩)) htake))
    | exact wpAny_bind (wpAny_bind (m := Builtin.Tuple.tupleExact _) (wpAny_newObj_type (wpAny_pure (wpAny_pure (wpAny_pure ⟨_, rfl, wpAny_pure h⟩))) htake))
    | exact wpAny_bind (wpAny_bind (m := Builtin.Tuple.tupleExact _) (wpAny_newObj_type (wpAny_pure ⟨_, rfl, wpAny_pure h⟩) htake))
end
section
variable {X : Cx}
/-- x[::-1] -/
def tRev (K : PySem.W.Frag) (te : TE) : TE := fun σ H Q => te σ H fun x H1 => ∃ a xs, x = .ref a ∧ ((SqL K H1 a xs ∧ ∀ p, H1 p = none → Q (.ref p) (upd H1 p (.lst xs.reverse))) ∨ (SqT K H1 a xs ∧ ∀ p, H1 p = none → Q (.ref p) (upd H1 p (.tup xs.reverse))))
theorem pe_rev {e : Expr} {te : TE} {k : Nat} {p1 p2 p3 pos : Pos} (he : PE X e te) : PE X (.Subscript e (.Slice none none (some (.UnaryOp .USub (.Constant (.int 1) k p1) p2)) p3) pos) (tRev X.K te) := by
  refine ⟨fun pins s σ H Q I h => ?_⟩
  refine Subscript_ (thn (he.run pins s σ H _ I h) fun v s1 ⟨x, H1, I1, r1, q1⟩ => ?_)
  obtain ⟨a, xs, ex, hx⟩ := q1
  subst ex
  cases r1
  have hst : PO X (some (.UnaryOp .USub (.Constant (.int 1) k p1) p2)) (tPart (tUn (rU fun i => .int (-i)) (tC (.int 1)))) := po_some (pe_un un_neg pe_int)
  refine wpAny_Slice (thn (po_none.run pins s1 σ H1 (fun o H2 => o = none ∧ H2 = H1) I1 ⟨rfl, rfl⟩) fun vl s2 ⟨l, H2, I2, pl, el, q2⟩ => ?_)
  subst el q2
  refine thn (po_none.run pins s2 σ H2 (fun o H3 => o = none ∧ H3 = H2) I2 ⟨rfl, rfl⟩) fun vu s3 ⟨u, H3, I3, pu, eu, q3⟩ => ?_
  subst eu q3
  refine thn (hst.run pins s3 σ H3 (fun o H4 => o = some (-1) ∧ H4 = H3) I3 ⟨1, rfl, -1, rfl, rfl, rfl⟩) fun vs s4 ⟨o, H4, I4, ps, eo, q4⟩ => ?_
  subst eo q4
  have I5 : Inv X pins σ H4 { s4 with heap := s4.heap.push { cls := .type "slice", data := .fields #[vl, vu, vs] } } := I4.kept (t' := s4.toks) fun b ob q => Heap.get?_push_of_some _ q
  rcases hx with ⟨hx, q⟩ | ⟨hx, q⟩
  · obtain ⟨its, r, ht, hz⟩ := I5.list hx
    have hlen := r.length
    show wpAny (model X.prog X.w) X.A (subscriptTail e (.Slice none none (some (.UnaryOp .USub (.Constant (.int 1) k p1) p2)) p3) (.ref a) (.ref s4.heap.objs.size)) (EP X pins σ Q) X.xe { s4 with heap := s4.heap.push { cls := .type "slice", data := .fields #[vl, vu, vs] } }
    refine tail_any (ops := [.ref a, .ref s4.heap.objs.size]) ht.isList.typeIs (PySem.slot_list_getitem.lookup) ?_ (by with_unfolding_all rfl)
    refine wpAny_getItem_list_slice ht.isList (Heap.IsSliceOf.new _ vl vu vs) pl pu ps (by decide) ?_ (by rw [List.size_toArray]; omega)
    rw [PySem.W.krv_pick]
    refine ⟨.ref _, _, I5.laid (t' := s4.toks) (o := .lst xs.reverse) (fun b ob q => Heap.get?_push_of_some _ q) (Nat.le_refl _) ?_, rfl, q _ (I5.hok.fresh (Nat.le_refl _))⟩
    exact ⟨by rw [List.length_reverse]; exact hz, _, 0, r.reverse, Heap.get?_push_size _ rfl⟩
  · obtain ⟨its, r, ht, hz⟩ := I5.tuple hx
    have hlen := r.length
    cases pl
    cases pu
    show wpAny (model X.prog X.w) X.A (subscriptTail e (.Slice none none (some (.UnaryOp .USub (.Constant (.int 1) k p1) p2)) p3) (.ref a) (.ref s4.heap.objs.size)) (EP X pins σ Q) X.xe { s4 with heap := s4.heap.push { cls := .type "slice", data := .fields #[.none, .none, vs] } }
    refine tail_any (ops := [.ref a, .ref s4.heap.objs.size]) ht.typeIs (PyProof.Rows.slot_tuple_getitem.lookup) ?_ (by with_unfolding_all rfl)
    refine getItem_tuple_rev ht (Heap.IsSliceOf.new _ .none .none vs) ps ?_ (by rw [List.size_toArray]; omega)
    refine ⟨.ref _, _, I5.laid (t' := s4.toks) (o := .tup xs.reverse) (fun b ob q => Heap.get?_push_of_some _ q) (Nat.le_refl _) ?_, rfl, q _ (I5.hok.fresh (Nat.le_refl _))⟩
    exact ⟨by rw [List.length_reverse]; exact hz, _, r.reverse, IsTup.new _ _⟩
end
section
variable {X : Cx} {C : Cf} {W : WX} {pos p1 p2 p3 : Pos}
def revF : D → Option D
  | .lst xs => some (.lst xs.reverse)
  | .tup xs => some (.tup xs.reverse)
  | _ => none
theorem HasAll.app {G : Hp} {us : List V} {es : List D} (h2 : HasAll C G us es) : ∀ {vs : List V} {ds : List D}, HasAll C G vs ds → HasAll C G (vs ++ us) (ds ++ es)
  | _, _, .nil => h2
  | _, _, .cons h r => .cons h (HasAll.app h2 r)
theorem HasAll.rev {G : Hp} : ∀ {vs : List V} {ds : List D}, HasAll C G vs ds → HasAll C G vs.reverse ds.reverse
  | _, _, .nil => .nil
  | _, _, .cons h r => by rw [List.reverse_cons, List.reverse_cons]; exact HasAll.app (.cons h .nil) (HasAll.rev r)
theorem d_rev {e : Expr} {m : M D} {k : Nat} (hK : X.K = C.K) (he : DE X C W e m) : DE X C W (.Subscript e (.Slice none none (some (.UnaryOp .USub (.Constant (.int 1) k p1) p2)) p3) pos) (e1 revF m) :=
  ⟨PE.weak (pe_rev he.pe) fun σ H Q ⟨G, q⟩ => ⟨G, run_imp (run_bind q) fun _ _ H1 G1 d g q v hv => by
    obtain ⟨d', e, _, k2, gs⟩ := op_done q
    rw [hK]
    cases d with
    | lst xs =>
      cases e
      cases hv with
      | lst hs r => exact ⟨_, _, rfl, .inl ⟨.of (gs.lst hs), fun l n => k2 l _ n rfl (.lst upd_same (HasAll.rev (r.mono (.new (gs.free n)))))⟩⟩
    | tup xs =>
      cases e
      cases hv with
      | tup hs r => exact ⟨_, _, rfl, .inr ⟨(Sub.grow (C := C) gs).sqT hs, fun l n => k2 l _ n rfl (.tup (.of upd_same) (HasAll.rev (r.mono (.new (gs.free n)))))⟩⟩
    | _ => cases e⟩⟩
end
end DL
end
section
set_option Elab.async false
set_option linter.all false
set_option maxRecDepth 100000
set_option maxHeartbeats 4000000
namespace DL
open PySem PySem.Spec PyProof.Rows L2
/-! ### enumerate of a tuple -/
theorem meets_enum1 {v : Value} {o : Obj} {H : Heap → Prop} (B : Begins v o H) :
    Meets (Builtin.«enumerate.__new__» ⟨[.type "enumerate", v], []⟩) (fun _ R s => H s.heap ∧
      R (.ok (.ret (.ref (s.heap.push o).objs.size))) { s with heap := (s.heap.push o).push { cls := .type "enumerate", data := .fields #[.none, .bool false, .ref s.heap.objs.size, rawInt 0, .none, .none] } }) :=
  .of_wp fun prog w A R s h => by
    obtain ⟨hp, g, d, tk, os⟩ := s; obtain ⟨h1, h⟩ := h
    have hsub := sub_enumerate
    have q1 : ∀ {A' : Around} {E : Value → Shared → Prop} {Q : Value → Shared → Prop}, Q (.ref hp.objs.size) ⟨hp.push o, g, d, tk, os⟩ → wpAny (model prog w) A' (pyIter v) Q E ⟨hp, g, d, tk, os⟩ :=
      fun q => B.iter prog w _ _ ⟨hp, g, d, tk, os⟩ _ h1 q
    wp_walk using q1
    refine wpAny_stack_any fun st => wpAny_pure ?_
    split
    · rename_i c _ _ _ _ _
      cases (c == Value.type "enumerate")
      · wp_walk using q1
        exact ⟨_, rfl, h⟩
      · wp_walk using q1
        exact ⟨_, rfl, h⟩
    · wp_walk using q1
      exact ⟨_, rfl, h⟩
section
variable {prog : Program} {w : World} {A : Around} {E : Value → Shared → Prop} {s : Shared}
theorem enum1_begins {v : Value} {o : Obj} {H : Heap → Prop} {Q : Value → Shared → Prop} (B : Begins v o H) (h1 : H s.heap)
    (h : ∀ h', IsEnum h' (s.heap.objs.size + 1) s.heap.objs.size 0 .none → h'.get? s.heap.objs.size = some o → h'.objs.size = s.heap.objs.size + 2 →
      (∀ b o, s.heap.get? b = some o → h'.get? b = some o) → Q (.ref (s.heap.objs.size + 1)) { s with heap := h' }) :
    wpAny (model prog w) A (call (.type "enumerate") [v]) Q E s := by
  refine callType_new F.called_enumerate (by decide) (F.typeCall_enumerate_1 _) (F.newCall_enumerate_1 _) (fun obj => F.args_object_init_2 obj _) F.entry_enumerate_new
    (meets_enum1 B) ⟨h1, ?_⟩
  have hz : (s.heap.push o).objs.size = s.heap.objs.size + 1 := Heap.size_push ..
  show _ ∧ _
  rw [hz]
  have he : IsEnum ((s.heap.push o).push { cls := .type "enumerate", data := .fields #[.none, .bool false, .ref s.heap.objs.size, rawInt 0, .none, .none] }) (s.heap.objs.size + 1) s.heap.objs.size 0 .none := by
    have := Heap.get?_push_size (s.heap.push o) (o := { cls := .type "enumerate", data := .fields #[.none, .bool false, .ref s.heap.objs.size, rawInt 0, .none, .none] }) rfl
    rw [hz] at this; exact this
  refine ⟨⟨_, he, rfl⟩, h _ he (Heap.get?_push_of_some _ (Heap.get?_push_size _ B.free)) (by rw [Heap.size_push, hz]) fun b o x => Heap.get?_push_of_some _ (Heap.get?_push_of_some _ x)⟩
end
theorem enum_end_tup {prog : Program} {w : World} {A : Around} {E : Value → Shared → Prop} {s : Shared} {e it a : Addr} {j : Nat} {items : Array Value} {i : Int} {old : Value} {Q : Option Value → Shared → Prop} (hh : A.handled = none)
    (he : IsEnum s.heap e it i old) (h1 : s.heap.IsTupleIter it a j) (h2 : s.heap.IsTuple a items) (hj : items[j]? = none)
    (hQ : ∀ h', Heap.ExtBut it s.heap h' → Q none { s with heap := h' }) : wpAny (model prog w) A (pyNext (.ref e)) Q E s := by
  have hT : s.TypeIs (.ref e) "enumerate" := ⟨_, he, rfl⟩
  unfold pyNext
  refine wpAny_bind (wpAny_attempt (wpAny_callSpecial?_slot (name := Str.ofString "__next__") hT F.slot_enumerate_next
    (wpAny_call_entry F.slot_enumerate_next hT F.entry_enumerate_next ?_ (F.args_enumerate_next_1 _))))
  show wpAny _ _ (field (.ref e) 2 >>= _) _ _ _
  refine wpAny_bind (wpAny_field he rfl (x := .ref it) rfl ?_)
  refine wpAny_bind (wpAny_nextOf_tuple_end hh h1 h2 hj fun h' x he' hx' => ?_)
  obtain ⟨o, ho, hc⟩ := hx'
  refine wpAny_bind (wpAny_isInstance (T := "StopIteration") (b := true) ⟨o, ho, hc⟩ isSubtype_stop ?_)
  exact wpAny_pure (hQ _ he')
/-- the tuple at a as it stands at each turn, each item in a new pair -/
def IteT (K : PySem.W.Frag) (a : Addr) : It :=
  ⟨fun i H => ∃ (xs : List V) (x : V), SqT K H a xs ∧ xs[i]? = some x, fun i H v H' => ∃ T x, v = .ref T ∧ H T = none ∧ H' = upd H T (.tup [.int (i : Nat), x]) ∧ ∀ xs, SqT K H a xs → xs[i]? = some x, fun i H => ∃ xs : List V, SqT K H a xs ∧ xs.length ≤ i⟩
theorem turn_enumT {P : Program} {w : World} {K : PySem.W.Frag} {elts : List Expr} {kk : Nat} {tpos : Pos} (a e it : Addr) :
    Turn P w K (.Tuple elts kk tpos) (IteT K a) [e, it] e (fun i h => (∃ old, IsEnum h e it ((i : Nat) : Int) old) ∧ h.IsTupleIter it a i ∧ e ≠ it ∧ a ≠ it ∧ e ≠ a) where
  mem := by simp
  obj := fun i h st b hb => by
    obtain ⟨⟨old, he⟩, ⟨o, ho, hc, hd⟩, _⟩ := st
    have e' : b = e ∨ b = it := by simpa using hb
    rcases e' with z | z
    · rw [z]; exact ⟨_, he, fun v q => nomatch q⟩
    · rw [z]; exact ⟨o, ho, fun v q => by rw [hd] at q; cases q⟩
  keep := fun i h h' st k => let ⟨⟨old, he⟩, hi, hne⟩ := st; ⟨⟨old, k e (by simp) _ he⟩, hi.at fun o q => k it (by simp) o q, hne⟩
  item := by
    intro X hP hw hK hc i pins s σ H E I hf st hg
    subst hP hw hK
    obtain ⟨⟨old, he⟩, hit, hne, hna, hea⟩ := st
    obtain ⟨xs, x, hq, hx⟩ := hg
    obtain ⟨its, rv, p, hz⟩ := I.tuple hq
    obtain ⟨u, hu, ru⟩ := rv.get hx
    have hel : e < s.heap.objs.size := Heap.lt_size he
    have hil : it < s.heap.objs.size := by obtain ⟨_, q, _⟩ := hit; exact Heap.lt_size q
    have hlt : i < its.toArray.size := by
      rw [List.size_toArray]
      exact (List.getElem?_eq_some_iff.mp hu).1
    refine wpAny_pyNext_enum_itemD (Draws.tuple (A := X.A.in1) (I.ok.hd hc) it a hna its.toArray) he ⟨hit, p⟩ hlt hne (by simp [hne, hea]) fun x' h' tk hx' ho hit' hT hsz hk => ?_
    have ex : x' = u := by
      have : its.toArray[i]? = some u := by simpa using hu
      rw [this] at hx'
      exact (Option.some.inj hx').symm
    subst ex
    refine ⟨_, rfl, wpAny_letOwnedTupleGo_enum (s := { s with heap := h', toks := tk + 1 }) ho fun h'' he' sb => ?_⟩
    have hT2 : h''.get? s.heap.objs.size = some { cls := .type "tuple", data := .seq #[.int i tk, x'] } := (sb.2 _ (Nat.ne_of_gt hel)).trans hT
    have new : ObjOk X.prog X.w (upd H s.heap.objs.size (.tup [.int (i : Nat), x])) h'' s.heap.objs.size (.tup [.int (i : Nat), x]) :=
      ⟨by show 2 ≤ sizeLine; decide, [.int i tk, x'], .cons ⟨_, rfl⟩ (.cons ru .nil), ⟨_, hT2, rfl, _, rfl⟩⟩
    have I1 : Inv X pins σ (upd H s.heap.objs.size (.tup [.int (i : Nat), x])) { s with heap := h'', toks := tk + 1 } :=
      I.turnedNew (ch := [e, it]) (fun b ob hb q => (sb.2 b (fun z => hb (by simp [z]))).trans (hk b ob (fun z => hb (by simp [z])) (fun z => hb (by simp [z])) q)) hf (Nat.le_refl _) new
    refine ⟨.ref s.heap.objs.size, _, I1, rfl, ⟨_, x, rfl, I.hok.fresh (Nat.le_refl _), rfl, fun ys hy => by rw [I.tuple_inj hy hq]; exact hx⟩, ⟨⟨x', ?_⟩, hit'.1.at fun o q => (sb.2 it (Ne.symm hne)).trans q, hne, hna, hea⟩, fun b hb => ?_⟩
    · have e1 : ((i + 1 : Nat) : Int) = (i : Int) + 1 := by omega
      rw [e1]; exact he'
    · have hb' : b < s.heap.objs.size := by
        have e' : b = e ∨ b = it := by simpa using hb
        rcases e' with z | z
        · rw [z]; exact hel
        · rw [z]; exact hil
      rw [upd_ne (Nat.ne_of_lt hb')]
      exact (hf b hb).1
  done := by
    intro X hP hw hK hc i pins s σ H E I hf st hg
    subst hP hw hK
    obtain ⟨⟨old, he⟩, hit, hne, hna, hea⟩ := st
    obtain ⟨xs, hq, hx⟩ := hg
    obtain ⟨its, rv, p, hz⟩ := I.tuple hq
    obtain ⟨f0, f1, f2, f3, f4, f5⟩ := hf it (by simp)
    have hl := rv.length
    exact enum_end_tup (I.ok.hd hc) he hit p (by simp; omega) fun h' eb => ⟨rfl, I.turned (t' := s.toks) (fun b o hb q => eb b o hb q) f0 f1 f3 f4 f5⟩
  self := fun A i s Q E st h => let ⟨⟨_, he⟩, _⟩ := st; wpAny_pyIter_enum he h
def iEnumA (K : PySem.W.Frag) (ta : TA) : TI := fun σ H R => ta σ H fun vs H1 => ∃ a xs, vs = [.ref a] ∧ ((SqL K H1 a xs ∧ R (Ite K a) H1) ∨ (SqT K H1 a xs ∧ R (IteT K a) H1))
theorem pi_enumA {X : Cx} {e : Expr} {ta : TA} {p pos tpos : Pos} {elts : List Expr} {kk : Nat} (hg : Gl X "enumerate") (hm : X.mg "enumerate" = none) (ha : PA X [e] ta) (hs : starEach [e] X.env = [(false, eval e X.env)] := by rfl) :
    PI X (.Tuple elts kk tpos) (.Call (.Name "enumerate" p) [e] [] pos) (iEnumA X.K ta) := by
  refine ⟨fun pins s σ H R I h => ?_⟩
  refine Call_ (ld_blt I hg hm boot_enumerate (PyProof.Rows.callWith_type1 (thn (ha.run pos pins s σ H _ I h) fun us s1 ⟨vs, H1, I1, r1, q1⟩ => ?_) hs rfl))
  obtain ⟨a, xs, ex, hq⟩ := q1
  subst ex
  cases r1 with
  | cons r rr =>
    cases rr
    cases r
    have fp : ∀ b ∈ [s1.heap.objs.size + 1, s1.heap.objs.size], FpOk X pins H1 b := fun b hb => by
      have e' : b = s1.heap.objs.size + 1 ∨ b = s1.heap.objs.size := by simpa using hb
      have hle : s1.heap.objs.size ≤ b := by
        rcases e' with z | z
        · rw [z]; exact Nat.le_add_right _ _
        · rw [z]; exact Nat.le_refl _
      exact I1.fpOk hle (I1.hok.fresh hle)
    rcases hq with ⟨hq, q⟩ | ⟨hq, q⟩
    · obtain ⟨its, rv, p', hz⟩ := I1.list hq
      refine call_enumerate_list p'.isList fun h' he hit hsz hk => wpAny_pyIter_enum he ?_
      exact ⟨s1.heap.objs.size + 1, [s1.heap.objs.size + 1, s1.heap.objs.size], _, _, H1, rfl, I1.kept (t' := s1.toks) hk, turn_enum a (s1.heap.objs.size + 1) s1.heap.objs.size, ⟨⟨.none, he⟩, hit, Nat.succ_ne_self _⟩, fp, q⟩
    · obtain ⟨its, rv, p', hz⟩ := I1.tuple hq
      have hal : a < s1.heap.objs.size := by obtain ⟨_, q, _⟩ := p'; exact Heap.lt_size q
      refine enum1_begins (begins_tuple a its.toArray) p' fun h' he hit hsz hk => wpAny_pyIter_enum he ?_
      exact ⟨s1.heap.objs.size + 1, [s1.heap.objs.size + 1, s1.heap.objs.size], _, _, H1, rfl, I1.kept (t' := s1.toks) hk, turn_enumT a (s1.heap.objs.size + 1) s1.heap.objs.size, ⟨⟨.none, he⟩, ⟨_, hit, rfl, rfl⟩, Nat.succ_ne_self _, Nat.ne_of_lt hal, Nat.ne_of_gt (Nat.lt_succ_of_lt hal)⟩, fp, q⟩
section
variable {X : Cx} {C : Cf} {W : WX} {p pos : Pos}
theorem wd_enumT {G : Hp} {a : Addr} {vs : List V} {ds : List D} (hs : TupG G a vs) (r : HasAll C G vs ds) : WalkD C (IteT C.K a) (enumL 0 ds) G where
  goes := fun i H1 G1 hi g gs => ⟨vs, vs[i]'(by rw [r.length, ← enumL_len (n := 0)]; exact hi), (Sub.grow (C := C) gs).sqT (g.tupG hs), by simp⟩
  stops := fun H1 G1 g gs => ⟨vs, (Sub.grow (C := C) gs).sqT (g.tupG hs), by rw [enumL_len, r.length]; exact Nat.le_refl _⟩
  yields := fun i H1 G1 x H2 hi g gs y => by
    obtain ⟨T, y, e, n, e2, hy⟩ := y
    subst e e2
    have hx := hy vs ((Sub.grow (C := C) gs).sqT (g.tupG hs))
    obtain ⟨d, h1, h2⟩ := r.getV hx
    have nG : G1 T = none := gs.free n
    have g2 : Grow C G1 (upd G1 T (.tup [.int (i : Nat), y])) := .new nG
    have hd := enumL_get (n := 0) h1
    rw [Nat.zero_add] at hd
    exact ⟨_, _, hd, .tup (.of upd_same) (.cons (.int _) (.cons ((h2.mono g).mono g2) .nil)), .alloc gs n⟩
def enA : List D → Option (List D)
  | [.lst xs] => some (enumL 0 xs)
  | [.tup xs] => some (enumL 0 xs)
  | _ => none
theorem di_enumA {e : Expr} {elts : List Expr} {kk : Nat} {tpos : Pos} {m : M (List D)} (hK : X.K = C.K) (hm : X.mg "enumerate" = none) (ha : DA X C W [e] m) (hg : Gl X "enumerate" := by rfl) (hs : starEach [e] X.env = [(false, eval e X.env)] := by rfl) :
    DI X C W (.Tuple elts kk tpos) (.Call (.Name "enumerate" p) [e] [] pos) (m.bind fun ds => lft (enA ds)) :=
  ⟨_, pi_enumA hg hm ha.pa hs, fun σ H R ⟨G, q⟩ => ⟨G, run_imp (run_bind q) fun _ _ H1 G1 ds g q vs hvs => by
    rw [hK]
    obtain ⟨xs, e, B, G0, a, r, k⟩ := run_lft q
    unfold enA at e
    split at e
    · cases e
      obtain ⟨v, rfl, h1⟩ := hvs.one
      cases h1 with
      | lst hs rr => exact ⟨_, _, rfl, .inl ⟨.of (r.gh.lst hs), k H1 G1 .refl r _ (wd_enum hs rr)⟩⟩
    · cases e
      obtain ⟨v, rfl, h1⟩ := hvs.one
      cases h1 with
      | tup hs rr => exact ⟨_, _, rfl, .inr ⟨(Sub.grow (C := C) r.gh).sqT hs, k H1 G1 .refl r _ (wd_enumT hs rr)⟩⟩
    · cases e⟩⟩
end
end DL
end
section
set_option Elab.async false
set_option linter.all false
set_option maxRecDepth 100000
set_option maxHeartbeats 4000000
/-! several except clauses, each with its name -/
namespace DL
open PySem PySem.Spec PyProof.Rows L2
def wManyA (K : PySem.W.Frag) (Wout : WX) (D : Ends) : List (Value × Nat × (Addr → Value → Option Addr → TS)) → WX
  | [] => Wout
  | (c, i, ts) :: r => fun cls d σ H => ∃ b, PySem.W.exmOne K cls c = some b ∧ (b = true → ∀ a, H a = none → ts a cls d { nx := fun σ' H' => D.nx (σ'.set i none) H', rt := D.rt, bk := fun σ' H' => D.bk (σ'.set i none) H', ct := fun σ' H' => D.ct (σ'.set i none) H' } (σ.set i (some (.ref a))) H) ∧ (b = false → wManyA K Wout D r cls d σ H)
inductive HdsA (X : Cx) : List ExceptHandler → List (Value × Nat × (Addr → Value → Option Addr → TS)) → Prop
  | nil : HdsA X [] []
  | cons {x n : Str} {c : Value} {i : Nat} {ts : Addr → Value → Option Addr → TS} {b₀ : Stmt} {suite : List Stmt} {np pos' : Pos} {hds : List ExceptHandler} {l : List (Value × Nat × (Addr → Value → Option Addr → TS))} (hi : X.N[i]? = some n) (hln : X.env.kindOf n = some .local) (hc : Names X x c)
      (hsu : ∀ (a : Addr) (oe : Obj) (cls : Value) (d : Option Addr) (pn : List (Addr × Obj)), Zc cls d oe → (∃ vs, oe.data = .fields vs) → PSs (X.suite a ((a, oe) :: pn)) (b₀ :: suite) (ts a cls d)) (r : HdsA X hds l) :
      HdsA X (.ExceptHandler (some (.Name x np)) (some n) (b₀ :: suite) pos' :: hds) ((c, i, ts) :: l)
section
variable {X : Cx} {body : List Stmt} {h₀ : ExceptHandler} {hds : List ExceptHandler} {l : List (Value × Nat × (Addr → Value → Option Addr → TS))} {pos : Pos} {tb : WX → TS} {Wout : WX}
theorem ps_try_manyA (hs : X.stack = X.env :: X.outer) (hf : X.env.frame = some X.env.locals) (hN : X.N.Nodup) (tk : Takes X Wout)
    (hb : ∀ (W : WX) (pn : List (Addr × Obj)) (xe : Value → Shared → Prop), Takes (X.tr pn xe) W → PassesOwn (model X.prog X.w) X.A X.env xe → PSs (X.tr pn xe) body (tb W))
    (hh : HdsA X (h₀ :: hds) l) : PS X (.Try body (h₀ :: hds) [] [] pos) (fun D σ H => tb (wManyA X.K Wout D l) D σ H) := by
  refine ⟨fun pins s σ H D I h => ?_⟩
  have ok := I.ok
  have hfr : X.A.frames = some (X.env :: X.outer) := by rw [ok.frames, hs]
  refine wpAny_Try_except ?_
  refine wpAny_mono ((hb (wManyA X.K Wout D l) (X.pn ++ pins) (fun e s₁ => wpAny (model X.prog X.w) X.A (noteFrame e X.env) (fun _ s₂ => wpAny (model X.prog X.w) X.A (setFlight e none) (fun _ s₃ =>
    wpAny (model X.prog X.w) X.A (handleBy e X.env (h₀ :: hds)) (SP X pins D) X.xe s₃) X.xe s₂) X.xe s₁) (fun u s' xx => ?_) PassesOwn.looking).run [] s σ H D (I.toTry _) h) (fun f s1 hsp => ?_) (fun e s1 he => he)
  · -- the catch
    obtain ⟨a, B, sI, pins', σ', H', cls, d, rfl, J', nb, up, sky, na, os, ag, w⟩ := xx
    have J : Inv X pins σ' H' sI := J'.ofTry ok
    have sky' : Sky B (X.env :: X.outer) a (Zc cls d) X.env.locals s'.heap := by rw [← hs]; exact sky
    show wpAny (model X.prog X.w) X.A (noteFrame (.ref a) X.env) _ _ _
    refine Sky.land Zc.steady hfr hf sky' fun h3 fl3 up3 => ?_
    have J3 : Inv X pins σ' H' { s' with heap := h3 } := J.landed nb fl3.1 (up.trans up3) os ag
    obtain ⟨oe3, vs3, he3, hz3, hd3⟩ := fl3.there
    have notFr : ∀ {h : Heap} {o : Obj} {vs : Array Value}, h.FunFrames B (X.env :: X.outer) → h.get? a = some o → o.data = .fields vs → a ∉ frs (X.env :: X.outer) := fun {h o vs} ff e dd hm => by
      obtain ⟨_, o', e', hnf⟩ := ff.mem hm
      rw [e] at e'; cases e'
      exact hnf _ dd
    have nfr := notFr fl3.2.2.1 he3 hd3
    have nL : a ≠ X.env.locals := fun z => nfr (List.mem_filterMap.mpr ⟨X.env, List.mem_cons_self, by rw [hf, z]⟩)
    have nF : a ∉ X.fs := fun hm => by
      obtain ⟨e, he, q⟩ := List.mem_filterMap.mp hm
      exact nfr (List.mem_filterMap.mpr ⟨e, List.mem_cons_of_mem _ he, q⟩)
    have S3 := J3.suite he3 hd3 na nL nF
    have go : ∀ {hds' : List ExceptHandler} {l' : List (Value × Nat × (Addr → Value → Option Addr → TS))}, HdsA X hds' l' → wManyA X.K Wout D l' cls d σ' H' →
        wpAny (model X.prog X.w) X.A (handleBy (.ref a) X.env hds') (SP X pins D) X.xe { s' with heap := h3 } := by
      intro hds' l' hk
      induction hk with
      | nil =>
        intro w
        refine wpAny_handleBy_nil ?_
        obtain ⟨k1, k2, k3, oe, vs, T, oT, ts', he, hz, hd, h1, hr⟩ := id fl3
        unfold PySem.passOn
        refine wpAny_bind (wpAny_field he hd h1 ?_)
        rw [if_neg (show ¬ ((Value.ref T == Value.none) = true) from by simp)]
        have fin : wpAny (model X.prog X.w) X.A (setFlight (.ref a) X.env.frame) (fun _ s4 => wpAny (model X.prog X.w) X.A (throw (.ref a) : Sem Flow) (SP X pins D) X.xe s4) X.xe { s' with heap := h3 } := by
          rw [hf]
          refine HandSPX.setFlight_upZ fl3 fun h4 hh4 up4 => wpAny_throw (tk _ _ ?_)
          exact ⟨a, B, sI, pins, σ', H', cls, d, rfl, J, nb, (up.trans up3).trans up4, .inr (.inr (by rw [hs]; exact hh4)), na, os, ag, w⟩
        first
          | exact wpAny_bind (wpAny_pure (wpAny_bind fin))
          | exact wpAny_bind fin
      | @cons x n c i ts b₀ suite np pos' hds2 l2 hi hln hc hsu r ih =>
        intro w
        obtain ⟨b, hb1, hyes, hno⟩ := w
        have hloc : Loc X.env.scope n := .inl hln
        refine wpAny_handleBy_cons (codeAny_handlers_test ?_) (by intro q; cases q)
        have LT : PySem.W.Looks (model X.prog X.w) h3 (typeOf (.ref a)) cls := fun A Q E s k q => wpAny_typeOf_ref (k _ _ he3) (by rw [hz3.1]; exact q)
        have LM := PySem.W.exm_one (M := model X.prog X.w) (J3.kIn) LT hb1
        have test : ∀ {Q : Value → Shared → Prop} {E : Value → Shared → Prop}, Q c { s' with heap := h3 } → wpAny (model X.prog X.w) (X.A.mark (some (.ref a))) (eval (.Name x np) X.env) Q E { s' with heap := h3 } := fun {Q E} q => by
          obtain ⟨hg, hdbg, hm | ⟨hm, hv, hnn⟩⟩ := hc
          · exact ld_glob (X := X.suite a ((a, oe3) :: (X.pn ++ pins))) S3 hg hm q hdbg
          · exact ld_blt (X := X.suite a ((a, oe3) :: (X.pn ++ pins))) S3 hg hm hv q hnn hdbg
        refine test (LM.here ?_)
        cases b with
        | true =>
          refine codeAny_handlers_suite_as ?_
          refine HandSPX.lands_againZ fl3 fun h4 fl4 up4 => ?_
          have J4 : Inv X pins σ' H' { s' with heap := h4 } := J.landed nb fl4.1 ((up.trans up3).trans up4) os ag
          obtain ⟨oe4, vs4, he4, hz4, hd4⟩ := fl4.there
          have S4 := J4.suite he4 hd4 na nL nF
          refine store_ok (X := X.suite a ((a, oe4) :: (X.pn ++ pins))) (v := .ref a) S4 hN hi hloc rfl (fun s5 S5 => ?_) (.inr hln)
          refine wpAny_mono ((hsu a oe4 cls d (X.pn ++ pins) hz4 ⟨_, hd4⟩).run [] s5 _ H' _ S5 (hyes rfl a na)) (fun f s6 hsp => ?_) (fun _ _ z => False.elim z)
          have end_ : ∀ {σ6 : DL.St} {H6 : Hp} {Q : Shared → Prop}, Inv (X.suite a ((a, oe4) :: (X.pn ++ pins))) [] σ6 H6 s6 → (∀ s7, Inv X pins (σ6.set i none) H6 s7 → Q s7) →
              wpAny (model X.prog X.w) X.A (do bindName X.env n .none; unbindBehindTheSuite X.env n pos') (fun _ s7 => Q s7) X.xe s6 := fun {σ6 H6 Q} S6 hq => gone_ok (S6.unsuite ok) hN hi hln hq
          cases f with
          | next =>
            obtain ⟨σ6, H6, S6, q6⟩ := hsp
            exact end_ S6 fun s7 J7 => ⟨_, _, J7, q6⟩
          | brk =>
            obtain ⟨σ6, H6, S6, q6⟩ := hsp
            exact end_ S6 fun s7 J7 => ⟨_, _, J7, q6⟩
          | cont =>
            obtain ⟨σ6, H6, S6, q6⟩ := hsp
            exact end_ S6 fun s7 J7 => ⟨_, _, J7, q6⟩
          | ret u =>
            obtain ⟨v6, σ6, H6, S6, r6, q6⟩ := hsp
            exact end_ S6 fun s7 J7 => ⟨_, _, _, J7, r6, q6⟩
        | false =>
          show wpAny _ X.A (handleBy (.ref a) X.env hds2) _ _ _
          exact ih (hno rfl)
    exact go hh w
  · cases f with
    | next =>
      obtain ⟨σ', H', J', q⟩ := hsp
      exact wpAny_execs_nil ⟨σ', H', J'.ofTry ok, q⟩
    | brk =>
      obtain ⟨σ', H', J', q⟩ := hsp
      exact ⟨σ', H', J'.ofTry ok, q⟩
    | cont =>
      obtain ⟨σ', H', J', q⟩ := hsp
      exact ⟨σ', H', J'.ofTry ok, q⟩
    | ret u =>
      obtain ⟨v, σ', H', J', r, q⟩ := hsp
      exact ⟨v, σ', H', J'.ofTry ok, r, q⟩
end
/-! ### what a try computes -/
/-- is the error class c the class T? 0: of all of them; 100: a built-in above all of them -/
def subE (c T : Nat) : Bool := T == 0 || T == 100 || c == T
def RS.strip (i : Nat) : RS → RS
  | .nx a => .nx (a.set i .no)
  | .ret d a => .ret d (a.set i .no)
  | .brk a => .brk (a.set i .no)
  | .ct a => .ct (a.set i .no)
  | .exc _ _ => .bad
  | .bad => .bad
/-- what f gives for every address of the caught error -/
noncomputable def uni (i : Nat) (f : Addr → RS) : RS := open Classical in if h : ∃ r, ∀ e, (f e).strip i = r then Classical.choose h else .bad
theorem uni_of {i : Nat} {f : Addr → RS} {r : RS} (h : ∀ e, (f e).strip i = r) : uni i f = r := by
  have hx : ∃ r, ∀ e, (f e).strip i = r := ⟨r, h⟩
  unfold uni
  rw [dif_pos hx]
  exact (Classical.choose_spec hx 0).symm.trans (h 0)
theorem uni_at {i : Nat} {f : Addr → RS} (h : uni i f ≠ .bad) (e : Addr) : (f e).strip i = uni i f := by
  unfold uni at h ⊢
  by_cases hx : ∃ r, ∀ e, (f e).strip i = r
  · rw [dif_pos hx]
    exact Classical.choose_spec hx e
  · rw [dif_neg hx] at h
    exact absurd rfl h
abbrev HS := List (Nat × Nat × (Nat → Addr → MS))
noncomputable def sHs : HS → Nat → MS
  | [], c, a => .exc c a
  | (T, i, f) :: r, c, a => if subE c T = true then uni i fun e => f c e (a.set i (.val (.ref e))) else sHs r c a
noncomputable def sTry (ks : List Nat) (b : MS) (h : HS) : MS := fun a => match b a with
  | .exc c a' => if c ∈ ks then sHs h c a' else .bad
  | r => r
abbrev W0E : WX := fun _ _ _ _ => False
/-- what is known of the class T (cv), for errors of the classes ks -/
structure EF (K : PySem.W.Frag) (xa : Nat → Addr) (ks : List Nat) (T : Nat) (cv : Value) : Prop where
  exm : ∀ c ∈ ks, PySem.W.exmOne K (.ref (xa c)) cv = some (subE c T)
  kit : ∀ c ∈ ks, PySem.W.kitOne K (.ref (xa c)) cv = some (subE c T)
section
variable {C : Cf} {W : WX} {Dn : Ends}
theorem ends_strip {B G0 G : Hp} {σ σ2 : DL.St} {i : Nat} {r : RS} (h : ends C W Dn B G0 σ G (r.strip i)) :
    ends C W0E { nx := fun σ' H' => Dn.nx (σ'.set i none) H', rt := Dn.rt, bk := fun σ' H' => Dn.bk (σ'.set i none) H', ct := fun σ' H' => Dn.ct (σ'.set i none) H' } B G0 σ2 G r := by
  cases r with
  | nx a => exact fun σ' H' G' g r => h _ H' G' g r.noσ
  | ret d a => exact fun v σ' H' G' g r hv => h v σ' H' G' g r.setNo hv
  | brk a => exact fun σ' H' G' g r => h _ H' G' g r.noσ
  | ct a => exact fun σ' H' G' g r => h _ H' G' g r.noσ
  | exc c a => exact h.elim
  | bad => exact h.elim
end
section
variable {X : Cx} {C : Cf} {W : WX} {ks : List Nat}
/-- an except clause with its name -/
structure DH (X : Cx) (C : Cf) (ks : List Nat) (hd : ExceptHandler) (T i : Nat) (f : Nat → Addr → MS) : Prop where
  ex : ∃ (x n : Str) (cv : Value) (b₀ : Stmt) (suite : List Stmt) (np pos' : Pos), hd = .ExceptHandler (some (.Name x np)) (some n) (b₀ :: suite) pos' ∧ X.N[i]? = some n ∧ X.env.kindOf n = some .local ∧ Names X x cv ∧ EF C.K C.xa ks T cv ∧
    ∀ c ∈ ks, ∀ (a : Addr) (oe : Obj) (pn : List (Addr × Obj)), Zc (.ref (C.xa c)) none oe → (∃ vs, oe.data = .fields vs) → DSs (X.suite a ((a, oe) :: pn)) C W0E (b₀ :: suite) (f c a)
inductive DHs (X : Cx) (C : Cf) (ks : List Nat) : List ExceptHandler → HS → Prop
  | nil : DHs X C ks [] []
  | cons {hd : ExceptHandler} {T i : Nat} {f : Nat → Addr → MS} {r : List ExceptHandler} {h : HS} (h1 : DH X C ks hd T i f) (h2 : DHs X C ks r h) : DHs X C ks (hd :: r) ((T, i, f) :: h)
theorem dhs_ok {Dn : Ends} {Wout : WX} (hK : X.K = C.K) : ∀ {hds : List ExceptHandler} {h : HS}, DHs X C ks hds h → ∃ l, HdsA X hds l ∧
    ∀ (Dn : Ends) (B G0 : Hp) (a : AS) (σ σ0 : DL.St) (H G : Hp) (c : Nat), c ∈ ks → Rel C B G0 a σ H G → ends C Wout Dn B G0 σ0 G (sHs h c a) → wManyA X.K Wout Dn l (.ref (C.xa c)) none σ H
  | _, _, .nil => ⟨[], .nil, fun Dn B G0 a σ σ0 H G c hc r q => q σ H G .refl r⟩
  | _, _, @DHs.cons _ _ _ hd T i f r h h1 h2 => by
    obtain ⟨l, hl, q⟩ := dhs_ok (Dn := Dn) (Wout := Wout) hK h2
    obtain ⟨x, n, cv, b₀, suite, np, pos', rfl, hi, hln, hc, ef, hsu⟩ := h1.ex
    refine ⟨(cv, i, fun a cls d Dn σ H => ∃ c ∈ ks, cls = .ref (C.xa c) ∧ d = none ∧ tS C W0E (f c a) Dn σ H) :: l, .cons hi hln hc (fun a oe cls d pn hz hf => ⟨fun pins s σ H Q I ⟨c, hk, e1, e2, q⟩ => ?_⟩) hl, fun Dn B G0 a σ σ0 H G c hk r w => ?_⟩
    · subst e1 e2
      exact (hsu c hk a oe pn hz hf).pss.run pins s σ H Q I q
    · refine ⟨subE c T, by rw [hK]; exact ef.exm c hk, fun hb ae ha => ?_, fun hb => ?_⟩
      · unfold sHs at w
        rw [if_pos hb] at w
        have nb : uni i (fun e => f c e (a.set i (.val (.ref e)))) ≠ .bad := fun z => by rw [z] at w; exact w
        rw [← uni_at nb ae] at w
        exact ⟨c, hk, rfl, rfl, G, B, G0, _, r.setVal (.ref ae), ends_strip w⟩
      · unfold sHs at w
        rw [if_neg (by rw [hb]; exact Bool.false_ne_true)] at w
        exact q Dn B G0 a σ σ0 H G c hk r w
theorem d_try {body : List Stmt} {h₀ : ExceptHandler} {hds : List ExceptHandler} {mb : MS} {h : HS} {pos : Pos} (ks : List Nat) (hN : X.N.Nodup) (tk : Takes X W) (hh : DHs X C ks (h₀ :: hds) h)
    (hb : ∀ (W : WX) (pn : List (Addr × Obj)) (xe : Value → Shared → Prop), Takes (X.tr pn xe) W → PassesOwn (model X.prog X.w) X.A X.env xe → DSs (X.tr pn xe) C W body mb)
    (hs : X.stack = X.env :: X.outer := by rfl) (hf : X.env.frame = some X.env.locals := by rfl) (hK : X.K = C.K := by rfl) : DS X C W (.Try body (h₀ :: hds) [] [] pos) (sTry ks mb h) := by
  obtain ⟨l, hl, q⟩ := dhs_ok (Dn := ⟨fun _ _ => False, fun _ _ => False, fun _ _ => False, fun _ _ => False⟩) (Wout := W) hK hh
  refine ⟨PS.weak (ps_try_manyA hs hf hN tk (tb := fun W => tS C W mb) (fun W pn xe t p => (hb W pn xe t p).pss) hl) fun Dn σ H ⟨G, B, G0, a, r, w⟩ => ⟨G, B, G0, a, r, ?_⟩⟩
  unfold sTry at w
  cases e : mb a with
  | exc c a1 =>
    rw [e] at w
    simp only at w
    by_cases hk : c ∈ ks
    · rw [if_pos hk] at w
      exact fun σ' H' G' g' r' => q Dn B G0 a1 σ' σ H' G' c hk r' (w.imp g' (fun _ _ z => z) (fun _ _ z => z) (fun _ _ z => z) fun _ _ z => z)
    · rw [if_neg hk] at w
      exact w.elim
  | nx a1 => rw [e] at w; exact w
  | ret d a1 => rw [e] at w; exact w
  | brk a1 => rw [e] at w; exact w
  | ct a1 => rw [e] at w; exact w
  | bad => rw [e] at w; exact w
/-- isinstance(e, T), e the caught error -/
def isE (i : Nat) (a : Addr) (b : Bool) : M D := fun s => match s[i]? with
  | some (.val (.ref e)) => if e = a then .ok (.bl b) s else .bad
  | _ => .bad
theorem d_isE {c T i : Nat} {a : Addr} {oe : Obj} {pn : List (Addr × Obj)} {x n : Str} {tv : V} {cv : Value} {p p2 p3 pos : Pos} (hk : c ∈ ks) (ec : ExcC C.K (C.xa c)) (hz : Zc (.ref (C.xa c)) none oe) (hf : ∃ vs, oe.data = .fields vs) (ef : EF C.K C.xa ks T cv) (hmi : X.mg "isinstance" = none)
    (hT : PE (X.suite a ((a, oe) :: pn)) (.Name x p3) (tC tv)) (hcv : ∀ u, RelV tv u → u = cv) (hK : X.K = C.K := by rfl) (hN : X.N[i]? = some n := by rfl) (hv : Vis X.env.scope n := by first | exact Or.inl rfl | exact Or.inr (Or.inl rfl) | exact Or.inr (Or.inr rfl))
    (hd : (n == ("__debug__" : Str)) = false := by decide) (hcd : (n == ("__classdict__" : Str)) = false := by decide) (hgi : Gl X "isinstance" := by rfl)
    (hs : starEach [.Name n p2, .Name x p3] X.env = (false, eval (.Name n p2) X.env) :: starEach [.Name x p3] X.env := by rfl) (hs2 : starEach [.Name x p3] X.env = (false, eval (.Name x p3) X.env) :: starEach [] X.env := by rfl) (hpl : (backTo pos (starEach [.Name x p3] X.env)).any (·.1) = false := by rfl) :
    DE (X.suite a ((a, oe) :: pn)) C W0E (.Call (.Name "isinstance" p) [.Name n p2, .Name x p3] [] pos) (isE i a (subE c T)) := by
  have ec' : ExcC X.K (C.xa c) := by rw [hK]; exact ec
  refine ⟨PE.weak (pe_callB (X := X.suite a ((a, oe) :: pn)) (call_isE (X := X) ec' hz hf) hgi hmi (by decide +kernel) (pa_cons (pe_var (X := X.suite a ((a, oe) :: pn)) (pos := p2) hN hv hd hcd) (pa_cons hT pa_nil hs2) hs) (by decide) (by decide) hs hpl) fun σ H Q ⟨G, B, G0, s, r, q⟩ => ?_⟩
  unfold isE at q
  cases e : s[i]? with
  | none => rw [e] at q; exact q.elim
  | some sl =>
    rw [e] at q
    cases sl with
    | val d =>
      cases d with
      | ref e' =>
        simp only at q
        by_cases he : e' = a
        · rw [if_pos he] at q
          subst he
          obtain ⟨v, h1, h2⟩ := r.slot i _ e
          cases h2
          exact ⟨_, h1, tv, cv, _, rfl, hcv, by rw [hK]; exact ef.kit c hk, q H G .refl r _ (.bl _)⟩
        · rw [if_neg he] at q
          exact q.elim
      | _ => exact q.elim
    | _ => exact q.elim
end
end DL
end
section
set_option Elab.async false
set_option linter.all false
set_option maxRecDepth 100000
set_option maxHeartbeats 4000000
/-! defs as values -/
namespace DL
open PySem PySem.Spec PyProof.Rows L2
/-- what the numbers of defs mean -/
def FnMr (C : Cf) : Prop := ∀ G q k d, 100 ≤ k → (C.mr G q k d ↔ q = C.xa k)
section
variable {X : Cx} {C : Cf} {W : WX} {p pos : Pos}
theorem d_fun {x : Str} {j : Nat} (hM : FnMr C) (hm : X.mg x = some (.ref (C.xa j))) (hj : 100 ≤ j := by decide) (hg : Gl X x := by rfl) (hd : (x == ("__debug__" : Str)) = false := by decide) : DE X C W (.Name x pos) (eC (.memo j .non)) :=
  d_glob (v := .ref (C.xa j)) hg hm rfl (fun G => .memo ((hM G _ j .non hj).mpr rfl)) hd
abbrev FT := List (Nat × Fn)
def lkF : FT → Nat → Option Fn
  | [], _ => none
  | (j, F) :: r, i => if i = j then some F else lkF r i
inductive FVs (P : Program) (w : World) (K : PySem.W.Frag) (mg : Str → Option Value) (base : Heap) (C : Cf) (k : Nat) : FT → Prop
  | nil : FVs P w K mg base C k []
  | cons {x : Str} {ps : List Str} {j : Nat} {F : Fn} {S : FT} (hm : mg x = some (.ref (C.xa j))) (hf : Dfn P w K mg base C x ps k F) (hj : 100 ≤ j) (r : FVs P w K mg base C k S) : FVs P w K mg base C k ((j, F) :: S)
theorem FVs.get {P : Program} {w : World} {K : PySem.W.Frag} {mg : Str → Option Value} {base : Heap} {k : Nat} {i : Nat} {F : Fn} : ∀ {S : FT}, FVs P w K mg base C k S → lkF S i = some F → 100 ≤ i ∧ ∃ x ps, mg x = some (.ref (C.xa i)) ∧ Dfn P w K mg base C x ps k F
  | _, .nil, h => by cases h
  | _, @FVs.cons _ _ _ _ _ _ _ x ps j F' S hm hf hj r, h => by
    unfold lkF at h
    by_cases e : i = j
    · rw [if_pos e] at h
      cases h
      subst e
      exact ⟨hj, x, ps, hm, hf⟩
    · rw [if_neg e] at h
      exact r.get h
def eCallL (i : Nat) (S : FT) (m : M (List D)) : M D := fun s => match s[i]? with
  | some (.val (.memo j _)) => (match lkF S j with
    | some F => eCall F m s
    | none => .bad)
  | _ => .bad
def tCallX (P : Program) (w : World) (K : PySem.W.Frag) (mg : Str → Option Value) (base : Heap) (CX : CXT) (k i : Nat) (E : L2.St → XK) (t : TA) : TE := fun σ H Q => ∃ f fd ps sp, σ[i]? = some (some (.ref f)) ∧ FnOk P w K mg base CX k f fd ps sp ∧ PySem.W.keepIn K (.ref f) = true ∧ Binds K fd ps [] ∧ t σ H fun vs H1 => sp vs H1 Q (E σ)
theorem pe_callX {CX : CXT} {k i : Nat} {E : L2.St → XK} {x : Str} {e : Expr} {es : List Expr} {t : TA} (hr : Room k X.A) (hN : X.N[i]? = some x) (hv : Vis X.env.scope x) (hx : ∀ σ, PassesAt CX X σ (E σ)) (ha : PA X (e :: es) t)
    (hdb : (x == ("__debug__" : Str)) = false := by decide) (hcd : (x == ("__classdict__" : Str)) = false := by decide)
    (he : starEach (e :: es) X.env = (false, eval e X.env) :: starEach es X.env := by rfl) (hpl : (backTo pos (starEach es X.env)).any (·.1) = false := by rfl) : PE X (.Call (.Name x p) (e :: es) [] pos) (tCallX X.prog X.w X.K X.mg X.base CX k i E t) := by
  refine ⟨fun pins s σ H Q I h => ?_⟩
  obtain ⟨f, fd, ps, sp, hs, F, hk, hb, ht⟩ := h
  refine wpAny_Call_Name_kw (thn ((pe_var (pos := p) hN hv hdb hcd).run pins s σ H (fun v H1 => v = .ref f ∧ H1 = H) I ⟨.ref f, hs, rfl, rfl⟩) fun u s1 ⟨v, H1, I1, r1, q1⟩ => ?_)
  obtain ⟨rfl, rfl⟩ := q1
  cases r1
  refine PySem.W.callWith_K (h₀ := X.base) I.ok.mod.kin hk (thn (ha.run pos pins s1 σ _ _ I1 ht) fun us s2 ⟨vs, H2, I2, r, q⟩ => ⟨I2.kIn, ?_⟩) he hpl
  exact run_fnS F hr hb (hx σ) I2 r q
theorem d_callL {k i : Nat} {S : FT} {x : Str} {e : Expr} {es : List Expr} {m : M (List D)} (hM : FnMr C) (fv : FVs X.prog X.w X.K X.mg X.base C k S) (hr : Room k X.A) (tk : Takes X W) (ha : DA X C W (e :: es) m) (hN : X.N[i]? = some x := by rfl)
    (hv : Vis X.env.scope x := by first | exact Or.inl rfl | exact Or.inr (Or.inl rfl) | exact Or.inr (Or.inr rfl)) (hdb : (x == ("__debug__" : Str)) = false := by decide) (hcd : (x == ("__classdict__" : Str)) = false := by decide)
    (he : starEach (e :: es) X.env = (false, eval e X.env) :: starEach es X.env := by rfl) (hpl : (backTo pos (starEach es X.env)).any (·.1) = false := by rfl) :
    DE X C W (.Call (.Name x p) (e :: es) [] pos) (eCallL i S m) :=
  ⟨PE.weak (pe_callX hr hN hv (fun σ => passAt tk σ) ha.pa hdb hcd he hpl) fun σ H Q ⟨G, B, G0, s, r, q⟩ => by
    unfold eCallL at q
    cases es : s[i]? with
    | none => rw [es] at q; exact q.elim
    | some sl =>
      rw [es] at q
      cases sl with
      | val d =>
        cases d with
        | memo j d =>
          simp only at q
          cases eF : lkF S j with
          | none => rw [eF] at q; exact q.elim
          | some F =>
            rw [eF] at q
            simp only at q
            obtain ⟨hj, y, ps, hm, hf⟩ := fv.get eF
            obtain ⟨f, fd, h1, h2, h3, h4⟩ := hf.ex
            rw [hm] at h1
            cases h1
            obtain ⟨v, e1, e2⟩ := r.slot i _ es
            cases e2 with
            | memo hh =>
              have hq := (hM _ _ _ _ hj).mp hh
              subst hq
              exact ⟨_, fd, ps, _, e1, h4, h2, h3, G, run_imp (run_bind ⟨B, G0, s, r, q⟩) fun _ _ H1 G1 ds g q vs hvs => run_call hvs q⟩
        | _ => exact q.elim
      | _ => exact q.elim⟩
end
/-! ### text * 0, text * 1 -/
section
variable {X : Cx} {C : Cf}
def rMulS : R2 := fun x y H Q => ∃ (s : Str) (n : Int), x = .str s ∧ y = .int n ∧ ((n = 0 ∧ Q (.str Str.empty) H) ∨ (n = 1 ∧ Q (.str s) H))
theorem op_mulS : OpR X (binaryOp .Mult) rMulS := by
  intro pins s σ H x y v u Q I rx ry h
  obtain ⟨st, n, rfl, rfl, h⟩ := h
  obtain ⟨t, rfl⟩ := rx
  obtain ⟨t', rfl⟩ := ry
  rcases h with ⟨rfl, q⟩ | ⟨rfl, q⟩
  · refine SB.mul ⟨rfl, fun h => absurd (by decide) h, fun h => absurd (by decide) h⟩ fun t2 k => ⟨.str Str.empty, H, I.kept (t' := k) fun _ _ e => e, ⟨t2, rfl⟩, q⟩
  · refine SB.mul ⟨rfl, fun _ h => absurd h (by simp), fun _ h => absurd h (by simp)⟩ fun t2 k => ⟨.str st, H, I.kept (t' := k) fun _ _ e => e, ⟨t2, rfl⟩, q⟩
def mulSF : D → D → Option D
  | .str x, .int n => if n = 0 then some (.str Str.empty) else if n = 1 then some (.str x) else none
  | _, _ => none
theorem o_mulS : Op2 C rMulS mulSF := by
  intro W σ H G x y dx dy Q hx hy q
  obtain ⟨d, e, k, _⟩ := op_done q
  unfold mulSF at e
  split at e
  · rename_i st n
    cases hx
    cases hy
    split at e
    · cases e
      exact ⟨st, n, rfl, rfl, .inl ⟨by assumption, k _ (.str _)⟩⟩
    · split at e
      · cases e
        exact ⟨st, n, rfl, rfl, .inr ⟨by assumption, k _ (.str _)⟩⟩
      · cases e
  · cases e
end
theorem all0 {α : Type} {P : α → Prop} : ∀ c ∈ ([] : List α), P c := fun _ h => absurd h List.not_mem_nil
theorem all2 {α : Type} {P : α → Prop} {a : α} {l : List α} (h : P a) (r : ∀ c ∈ l, P c) : ∀ c ∈ a :: l, P c := fun c hc => by
  rcases List.mem_cons.mp hc with e | e
  · rw [e]; exact h
  · exact r c e
end DL
end
section
set_option Elab.async false
set_option linter.all false
set_option maxRecDepth 100000
set_option maxHeartbeats 4000000
namespace DL
open PySem PySem.Spec PyProof.Rows L2
section
variable {X : Cx} {C : Cf} {W : WX} {p pos : Pos} {x : Str}
theorem dt_eqO (i : Nat) {e : Expr} {m : M D} (hK : X.K = C.K) (hu : X.A.units + 64 < cLine) (h : DE X C W e m) (hN : X.N[i]? = some x := by rfl) (hv : Vis X.env.scope x := by first | exact Or.inl rfl | exact Or.inr (Or.inl rfl) | exact Or.inr (Or.inr rfl)) (hd : (x == ("__debug__" : Str)) = false := by decide)
    (hcd : (x == ("__classdict__" : Str)) = false := by decide) : DT X C W (.Compare (.Name x p) [.Eq] [e] pos) (mB (chk i (m.bind fun j => look i fun d => eqF d j))) :=
  ⟨PT.weak (pt_cmpR (op_eqD hu) (pe_var hN hv hd hcd) h.pe (nomark _)) fun σ H Q ⟨G, q⟩ => by
    obtain ⟨⟨v, hv⟩, q⟩ := run_chk (run_asB q)
    refine ⟨v, hv, G, run_imp (run_bind q) fun _ _ H1 G1 j g q u hu => ?_⟩
    obtain ⟨v', d, e, h1, h2, h3, gs, B, a, G0, r, k⟩ := run_look q
    rw [hv] at h1
    cases h1
    rw [hK]
    obtain ⟨b, rfl, B', G0', a', r', kk⟩ := k H1 G1 .refl r
    exact o_eqH (σ := σ) (neg := false) (Q := fun x H' => ∃ k, x = V.bl k ∧ Q k H') h2 (.inl hu) gs h3 fun z hz => by cases hz; exact ⟨b, rfl, kk H1 G1 .refl r'⟩⟩
theorem dt_neO (i : Nat) {e : Expr} {m : M D} (hK : X.K = C.K) (hu : X.A.units + 64 < cLine) (h : DE X C W e m) (hN : X.N[i]? = some x := by rfl) (hv : Vis X.env.scope x := by first | exact Or.inl rfl | exact Or.inr (Or.inl rfl) | exact Or.inr (Or.inr rfl)) (hd : (x == ("__debug__" : Str)) = false := by decide)
    (hcd : (x == ("__classdict__" : Str)) = false := by decide) : DT X C W (.Compare (.Name x p) [.NotEq] [e] pos) (mB (chk i (m.bind fun j => look i fun d => neF d j))) :=
  ⟨PT.weak (pt_cmpR (op_neD hu) (pe_var hN hv hd hcd) h.pe (nomark _)) fun σ H Q ⟨G, q⟩ => by
    obtain ⟨⟨v, hv⟩, q⟩ := run_chk (run_asB q)
    refine ⟨v, hv, G, run_imp (run_bind q) fun _ _ H1 G1 j g q u hu => ?_⟩
    obtain ⟨v', d, e, h1, h2, h3, gs, B, a, G0, r, k⟩ := run_look q
    rw [hv] at h1
    cases h1
    rw [hK]
    obtain ⟨b, rfl, B', G0', a', r', kk⟩ := k H1 G1 .refl r
    exact o_eqH (σ := σ) (neg := true) (Q := fun x H' => ∃ k, x = V.bl k ∧ Q k H') h2 (.inl hu) gs h3 fun z hz => by cases hz; exact ⟨b, rfl, kk H1 G1 .refl r'⟩⟩
end
section
variable {K : PySem.W.Frag} {c T : Addr} {b : Bool}
theorem exm_r (h1 : PySem.W.subIn K (.ref T) (.type "BaseException") = some true) (h2 : PySem.W.hasDictIn K T = true) (h3 : PySem.W.typeIn K (.ref T) = some (.type "type")) (h : PySem.W.subIn K (.ref c) (.ref T) = some b) : PySem.W.exmOne K (.ref c) (.ref T) = some b := PySem.W.exm_ref h1 h2 h3 h
theorem kit_r (h4 : PySem.W.subIn K (.ref T) (.ref T) = some true) (h2 : PySem.W.hasDictIn K T = true) (h3 : PySem.W.typeIn K (.ref T) = some (.type "type")) (h : PySem.W.subIn K (.ref c) (.ref T) = some b) : PySem.W.kitOne K (.ref c) (.ref T) = some b := by
  obtain ⟨cd, hc, _⟩ := PySem.W.any_some h2
  unfold PySem.W.kitOne
  by_cases e : c = T
  · subst e
    rw [h4] at h
    cases h
    rw [if_pos (by simp)]
  · rw [if_neg (by simpa using e)]
    unfold PySem.W.kitCls
    simp only [hc, h3]
    exact h
theorem kit_v (h : PySem.W.subIn K (.ref c) (.type "ValueError") = some b) : PySem.W.kitOne K (.ref c) (.type "ValueError") = some b := by
  unfold PySem.W.kitOne
  rw [if_neg (show ¬ (Value.ref c == Value.type "ValueError") = true by simp)]
  unfold PySem.W.kitCls
  simp only
  rw [if_pos (by decide +kernel)]
  exact h
theorem exm_v (h : PySem.W.subIn K (.ref c) (.type "ValueError") = some b) : PySem.W.exmOne K (.ref c) (.type "ValueError") = some b := by
  unfold PySem.W.exmOne
  rw [if_pos (by
    show (Option.map (fun x => x.contains (Value.type "BaseException")) (fastBuiltinMro "ValueError") == some true) = true
    decide +kernel)]
  unfold PySem.W.kitCls
  simp only
  rw [if_pos (by decide +kernel)]
  exact h
end
end DL
end
section
set_option Elab.async false
set_option linter.all false
set_option maxRecDepth 100000
set_option maxHeartbeats 4000000
namespace DL
open PySem PySem.Spec PyProof.Rows L2
/-! ### x in a tuple of flat things -/
section
variable {X : Cx} {C : Cf}
def rInX (K : PySem.W.Frag) : R2 := fun x y H Q => rInD K x y H Q ∨ rIn K false x y H Q
def rNinX (K : PySem.W.Frag) : R2 := fun x y H Q => rNotInD K x y H Q ∨ rIn K true x y H Q
theorem op_inX (hu : X.A.units + 65 < cLine) : OpR X (compareOp .In) (rInX X.K) := by
  intro pins s σ H x y v u Q I rx ry h
  rcases h with h | h
  · exact op_inD hu pins s σ H x y v u Q I rx ry h
  · exact op_in_seq pins s σ H x y v u Q I rx ry h
theorem op_ninX (hu : X.A.units + 65 < cLine) : OpR X (compareOp .NotIn) (rNinX X.K) := by
  intro pins s σ H x y v u Q I rx ry h
  rcases h with h | h
  · exact op_notInD hu pins s σ H x y v u Q I rx ry h
  · exact op_notIn_seq pins s σ H x y v u Q I rx ry h
def toV : D → V
  | .bl b => .bl b
  | .int i => .int i
  | .str x => .str x
  | _ => .non
def flatD : D → Bool
  | .non => true
  | .bl _ => true
  | .int _ => true
  | .str _ => true
  | _ => false
theorem flat_has {G : Hp} {v : V} {d : D} (h : Has C G v d) (f : flatD d = true) : v = toV d ∧ flatV v = true := by
  cases h <;> first
    | exact ⟨rfl, rfl⟩
    | cases f
theorem flat_all {G : Hp} : ∀ {vs : List V} {ds : List D}, HasAll C G vs ds → ds.all flatD = true → vs = ds.map toV ∧ vs.all flatV = true
  | _, _, .nil, _ => ⟨rfl, rfl⟩
  | _, _, .cons h r, f => by
    rw [List.all_cons, Bool.and_eq_true] at f
    obtain ⟨e1, f1⟩ := flat_has h f.1
    obtain ⟨e2, f2⟩ := flat_all r f.2
    subst e1
    rw [List.map_cons, ← e2, List.all_cons, f1, f2]
    exact ⟨rfl, rfl⟩
def memV (d : D) (xs : List D) : Bool := xs.any fun y => eqV (toV y) (toV d)
def inX (d e : D) : Option D := match e with
  | .lst xs => if (lvl 60 d && lvls 59 xs) = true then some (.bl (anyEq d xs)) else none
  | .tup xs => if (flatD d && xs.all flatD) = true then some (.bl (memV d xs)) else none
  | _ => none
def ninX (d e : D) : Option D := match e with
  | .lst xs => if (lvl 60 d && lvls 59 xs) = true then some (.bl (!anyEq d xs)) else none
  | .tup xs => if (flatD d && xs.all flatD) = true then some (.bl (!memV d xs)) else none
  | _ => none
theorem o_inX : Op2 C (rInX C.K) inX := by
  intro W σ H G x y dx dy Q hx hy q
  obtain ⟨d, e, k, _, g⟩ := op_done q
  cases dy with
  | lst xs => exact .inl (o_in W σ H G x y dx (.lst xs) Q hx hy q)
  | tup xs =>
    obtain ⟨e1, e2⟩ := ite_some e
    subst e2
    rw [Bool.and_eq_true] at e1
    cases hy with
    | tup hs rr =>
      obtain ⟨ex, fx⟩ := flat_has hx e1.1
      obtain ⟨es, fs⟩ := flat_all rr e1.2
      refine .inr ⟨_, _, rfl, .inr ((Sub.grow (C := C) g).sqT hs), fx, fs, ?_⟩
      have hq : ∀ l, l = xs.map toV → inV x l = memV dx xs := fun l es => by
        unfold inV memV
        rw [es, ex, List.any_map]
        rfl
      rw [if_neg Bool.false_ne_true, hq _ es]
      exact k _ (.bl _)
  | _ => cases e
theorem o_ninX : Op2 C (rNinX C.K) ninX := by
  intro W σ H G x y dx dy Q hx hy q
  obtain ⟨d, e, k, _, g⟩ := op_done q
  cases dy with
  | lst xs => exact .inl (o_nin W σ H G x y dx (.lst xs) Q hx hy q)
  | tup xs =>
    obtain ⟨e1, e2⟩ := ite_some e
    subst e2
    rw [Bool.and_eq_true] at e1
    cases hy with
    | tup hs rr =>
      obtain ⟨ex, fx⟩ := flat_has hx e1.1
      obtain ⟨es, fs⟩ := flat_all rr e1.2
      refine .inr ⟨_, _, rfl, .inr ((Sub.grow (C := C) g).sqT hs), fx, fs, ?_⟩
      have hq : ∀ l, l = xs.map toV → inV x l = memV dx xs := fun l es => by
        unfold inV memV
        rw [es, ex, List.any_map]
        rfl
      rw [if_pos rfl, hq _ es]
      exact k _ (.bl _)
  | _ => cases e
end
end DL
end
section
set_option Elab.async false
set_option linter.all false
set_option maxRecDepth 100000
set_option maxHeartbeats 4000000
namespace DL
open PySem PySem.Spec PySem.W PyProof.Rows L2
/-! ### the least of a list of alike data -/
section
variable {prog : Program} {w : World} {A : Around} {E : Value → Shared → Prop} {s : Shared}
def ltP (ps : List PyData) (i j : Nat) : Bool := dataLt (ps.getD i .none) (ps.getD j .none)
theorem min_at {l : Addr} {vs : Array Value} {x : PyData} {xs : List PyData} {as : List Addr} {Q : Value → Shared → Prop} (hh : A.handled = none) (hl : s.heap.IsList l vs) (hr : ReadsAll s.heap vs.toList (x :: xs) as) (ha : AlikeAll (x :: xs)) (hu : A.units + 1 + PyData.depthAll (x :: xs) < cLine)
    (h : ∀ v h' tk, vs[argBest (ltP (x :: xs)) (vs.size - 1)]? = some v → (∀ b o, s.heap.get? b = some o → h'.get? b = some o) → Q v { s with heap := h', toks := tk }) :
    wpAny (model prog w) A (call (.builtin "min") [.ref l]) Q E s := by
  have hn : vs.size = xs.length + 1 := readsAll_len hr
  refine call_min_walkH (iter_listW (A := A.in1) hh hl fun s₂ e W st hfp hw hk => ?_)
  refine ⟨_, _, _, _, _, _, _, s.heap, _, rfl, W, st, hfp, by omega, hw, hk, cmpIn_lt (A := A.in1) hr ha (by show A.units + 1 + _ < _; exact hu), fun v s' hP m => ?_⟩
  obtain ⟨h', tk, rfl, hk'⟩ := moved_old e rfl m
  exact h v h' tk hP hk'
end
/-- can all be compared -/
def noneP : PyData → Bool
  | .none => true
  | _ => false
def alikeB (ps : List PyData) : Bool := ps.all (fun x => ps.all fun y => alike x y) && ps.all fun x => !noneP x
theorem alikeB_ok {ps : List PyData} (h : alikeB ps = true) : AlikeAll ps := by
  unfold alikeB at h
  rw [Bool.and_eq_true] at h
  refine ⟨fun x hx y hy => List.all_eq_true.mp (List.all_eq_true.mp h.1 x hx) y hy, fun x hx e => ?_⟩
  have := List.all_eq_true.mp h.2 x hx
  rw [e] at this
  cases this
def rMinDt (K : PySem.W.Frag) : List V → Hp → VK → Prop := fun vs H Q => ∃ (a : Addr) (xs : List V) (p : PyData) (ps : List PyData) (v : V), vs = [.ref a] ∧ SqL K H a xs ∧ DpAll K H xs (p :: ps) ∧ alikeB (p :: ps) = true ∧ PyData.depthAll (p :: ps) ≤ 59 ∧ xs[argBest (ltP (p :: ps)) (xs.length - 1)]? = some v ∧ Q v H
def rMinX (K : PySem.W.Frag) : List V → Hp → VK → Prop := fun vs H Q => rMinA K vs H Q ∨ rMinDt K vs H Q
section
variable {X : Cx} {C : Cf}
theorem cr_minX (hc : X.calm = true) (hu : X.A.units + 65 < cLine) : CallR X (.builtin "min") (rMinX X.K) := by
  intro pins s σ H vs us Q I r h
  rcases h with h | h
  · exact cr_minA hc pins s σ H vs us Q I r h
  · obtain ⟨a, xs, p, ps, v, rfl, hs, hd, ha, hz, hv, q⟩ := h
    obtain ⟨its, rv, hl, _⟩ := I.list hs
    rw [Vals.ref1 r]
    obtain ⟨as, hr⟩ := Dp.readsAll I (p :: ps) xs its hd rv
    obtain ⟨u, hu1, hu2⟩ := rv.get hv
    refine min_at (x := p) (xs := ps) (as := as) (I.ok.hd hc) hl.isList (by simpa using hr) (alikeB_ok ha) (by omega) fun w h' tk hw hk => ?_
    have e : w = u := by
      rw [List.size_toArray, ← rv.length] at hw
      have : its.toArray[argBest (ltP (p :: ps)) (xs.length - 1)]? = some u := by simpa using hu1
      rw [this] at hw
      exact (Option.some.inj hw).symm
    rw [e]
    exact ⟨v, H, I.kept hk, hu2, q⟩
def minDF : List D → Option D
  | [.lst (d :: ds)] => if (lvls 59 (d :: ds) && alikeB (toPs (d :: ds))) = true then (d :: ds)[argBest (ltP (toPs (d :: ds))) ds.length]? else none
  | _ => none
def minXF (ds : List D) : Option D := match minF ds with
  | some d => some d
  | none => minDF ds
theorem o_minX : OpN C (rMinX C.K) minXF := by
  intro W σ H G vs ds Q hv q
  obtain ⟨d, e, k, _, g⟩ := op_done q
  unfold minXF at e
  cases em : minF ds with
  | some d' =>
    simp only [em] at e
    have e2 : minXF ds = some d := by unfold minXF; simp only [em]; exact e
    refine .inl (o_min W σ H G vs ds Q hv ?_)
    rw [em, e, ← e2]
    exact q
  | none =>
    simp only [em] at e
    unfold minDF at e
    split at e
    · rename_i d0 ds0
      split at e
      · rename_i hz
        rw [Bool.and_eq_true] at hz
        obtain ⟨v0, rfl, h1⟩ := hv.one
        cases h1 with
        | lst hs rr =>
          have hl := rr.length
          obtain ⟨v, h1, h2⟩ := rr.get e
          have hd := dps_of g rr hz.1
          have ep : toPs (d0 :: ds0) = toP d0 :: toPs ds0 := by conv => lhs; unfold toPs
          have h3 := (lvls_ok 59 _ hz.1).2
          rw [ep] at hd h3 h1
          have h4 := hz.2
          rw [ep] at h4
          refine .inr ⟨_, _, _, _, v, rfl, .of (g.lst hs), hd, h4, h3, ?_, k v h2⟩
          rw [hl]
          exact h1
      · cases e
    · cases e
end
end DL
end
section
set_option Elab.async false
set_option linter.all false
set_option maxRecDepth 100000
set_option maxHeartbeats 4000000
/-! memo dicts: 'if key not in known: .. known[key] = value' and 'return known[key]' -/
namespace DL
open PySem PySem.Spec PyProof.Rows L2
theorem fnMr (C : Cf) : FnMr C := fun G q k d hk => ⟨fun h => by
  rcases h with h | h
  · exact h.2
  · exact absurd h.1 (by omega), fun h => .inl ⟨hk, h⟩⟩
mutual
/-- data as a key -/
def keyD : D → Option NestedKey
  | .int i => some (.num i)
  | .tup ds => (keysD ds).map .tup
  | _ => none
def keysD : List D → Option (List NestedKey)
  | [] => some []
  | d :: ds => (keyD d).bind fun k => (keysD ds).map (k :: ·)
end
section
variable {C : Cf} {G : Hp}
mutual
theorem key_has : ∀ {v : V} {d : D} {k : NestedKey}, Has C G v d → keyD d = some k → KeyIn C.K G k v
  | _, .int i, k, .int _, h => by
    unfold keyD at h
    cases h; exact .num i
  | _, .tup ds, k, .tup s r, h => by
    unfold keyD at h
    obtain ⟨ks, e, rfl⟩ := Option.map_eq_some_iff.mp h
    exact .tup s.sq (keys_has r e)
  | _, .non, k, _, h => by unfold keyD at h; cases h
  | _, .bl _, k, _, h => by unfold keyD at h; cases h
  | _, .str _, k, _, h => by unfold keyD at h; cases h
  | _, .lst _, k, _, h => by unfold keyD at h; cases h
  | _, .scr _, k, _, h => by unfold keyD at h; cases h
  | _, .dic _, k, _, h => by unfold keyD at h; cases h
  | _, .ref _, k, _, h => by unfold keyD at h; cases h
  | _, .memo _ _, k, _, h => by unfold keyD at h; cases h
  | _, .obj _ _, k, _, h => by unfold keyD at h; cases h
theorem keys_has : ∀ {vs : List V} {ds : List D} {ks : List NestedKey}, HasAll C G vs ds → keysD ds = some ks → KeysIn C.K G ks vs
  | _, _, ks, .nil, h => by
    unfold keysD at h
    cases h; exact .nil
  | _, _, ks, .cons a r, h => by
    unfold keysD at h
    obtain ⟨k, e1, h⟩ := Option.bind_eq_some_iff.mp h
    obtain ⟨ks', e2, rfl⟩ := Option.map_eq_some_iff.mp h
    exact .cons (key_has a e1) (keys_has r e2)
end
theorem SHas.has {v : V} {d : D} (h : SHas C.K G v d) : Has C G v d := by
  cases h with
  | int i => exact .int i
  | tup s => exact .tup s HasAll.of_ints
/-- simple data -/
inductive Simple : D → Prop
  | int (i : Int) : Simple (.int i)
  | tup (ns : List Int) : Simple (.tup (ns.map D.int))
theorem Has.simple {v : V} {d : D} (h : Has C G v d) (s : Simple d) : SHas C.K G v d := by
  cases s with
  | int i => cases h; exact .int i
  | tup ns =>
    cases h with
    | tup s r => rw [HasAll.ints r] at s; exact .tup s
end
/-- a field -/
def fldF (f : Str) : D → Option D
  | .obj 50 fs => fs.lookup f
  | _ => none
theorem HasFs.lookup {C : Cf} {G : Hp} {f : Str} {d : D} : ∀ {fv : List (Str × V)} {fs : List (Str × D)}, HasFs C G fv fs → fs.lookup f = some d → ∃ v, fv.lookup f = some v ∧ Has C G v d
  | _, _, .nil, h => by cases h
  | _, _, @HasFs.cons _ _ g v vs e ds a r, h => by
    rw [List.lookup_cons] at h ⊢
    cases hg : f == g with
    | true => rw [hg] at h; cases h; exact ⟨v, rfl, a⟩
    | false => rw [hg] at h; exact HasFs.lookup r h
theorem HasFs.lookupN {C : Cf} {G : Hp} {f : Str} : ∀ {fv : List (Str × V)} {fs : List (Str × D)}, HasFs C G fv fs → fs.lookup f = none → fv.lookup f = none
  | _, _, .nil, h => rfl
  | _, _, @HasFs.cons _ _ g v vs e ds a r, h => by
    rw [List.lookup_cons] at h ⊢
    cases hg : f == g with
    | true => rw [hg] at h; cases h
    | false => rw [hg] at h; exact HasFs.lookupN r h
/-- a value that stays where it is -/
structure SV (X : Cx) (C : Cf) (e : Expr) (ft : L2.St → Hp → V → Prop) (md : AS → Option D) : Prop where
  pe : PE X e (fun σ H Q => ∃ v, ft σ H v ∧ Q v H)
  one : ∀ σ H v v', ft σ H v → ft σ H v' → v = v'
  keep : ∀ σ H H' v, ft σ H v → (∀ p c dx fs, H p = some (.ins c dx fs) → H' p = some (.ins c dx fs)) → ft σ H' v
  has : ∀ B G0 a σ H G d, Rel C B G0 a σ H G → md a = some d → ∃ v, ft σ H v ∧ Has C G v d
def mdN (i : Nat) (a : AS) : Option D := match a[i]? with
  | some (.val d) => some d
  | _ => none
theorem mdN_val {i : Nat} {a : AS} {d : D} (h : mdN i a = some d) : a[i]? = some (.val d) := by
  unfold mdN at h
  split at h
  · cases h; assumption
  · cases h
section
variable {X : Cx} {C : Cf} {W : WX} {pos p1 p2 p3 p4 p5 p6 p7 : Pos}
theorem sv_name (i : Nat) {x : Str} (hN : X.N[i]? = some x := by rfl) (hv : Vis X.env.scope x := by first | exact Or.inl rfl | exact Or.inr (Or.inl rfl) | exact Or.inr (Or.inr rfl)) (hd : (x == ("__debug__" : Str)) = false := by decide)
    (hcd : (x == ("__classdict__" : Str)) = false := by decide) : SV X C (.Name x pos) (fun σ _ v => σ[i]? = some (some v)) (mdN i) where
  pe := pe_var hN hv hd hcd
  one := fun σ H v v' h1 h2 => by rw [h1] at h2; cases h2; rfl
  keep := fun σ H H' v h _ => h
  has := fun B G0 a σ H G d r h => r.slot i _ (mdN_val h)
theorem sv_fld {e : Expr} {ft : L2.St → Hp → V → Prop} {md : AS → Option D} (f : Str) (c : Cls C.K (C.xa 50)) (n : NoAttr C.K (C.xa 50) f) (h : SV X C e ft md) (hK : X.K = C.K := by rfl) (hb : attributeBase e f X.env (eval e X.env) = eval e X.env := by rfl) :
    SV X C (.Attribute e f pos) (fun σ H v => ∃ p dx fs, ft σ H (.ref p) ∧ H p = some (.ins (C.xa 50) dx fs) ∧ fs.lookup f = some v) (fun a => (md a).bind (fldF f)) where
  pe := PE.weak (pe_fld h.pe hb) fun σ H Q ⟨v, ⟨p, dx, fs, h1, h2, h3⟩, q⟩ => ⟨.ref p, h1, p, _, dx, fs, v, rfl, h2, by rw [hK]; exact c, by rw [hK]; exact n, h3, q⟩
  one := fun σ H v v' ⟨p, dx, fs, h1, h2, h3⟩ ⟨p', dx', fs', h1', h2', h3'⟩ => by
    have e := h.one _ _ _ _ h1 h1'
    cases e
    rw [h2] at h2'
    cases h2'
    rw [h3] at h3'
    cases h3'
    rfl
  keep := fun σ H H' v ⟨p, dx, fs, h1, h2, h3⟩ k => ⟨p, dx, fs, h.keep _ _ _ _ h1 k, k _ _ _ _ h2, h3⟩
  has := fun B G0 a σ H G d r q => by
    obtain ⟨o, q1, q2⟩ := Option.bind_eq_some_iff.mp q
    obtain ⟨v, h1, h2⟩ := h.has B G0 a σ H G o r q1
    cases o with
    | obj k fs =>
      unfold fldF at q2
      split at q2
      · rename_i heq
        cases heq
        cases h2 with
        | obj hp hf =>
          obtain ⟨u, u1, u2⟩ := hf.lookup q2
          exact ⟨u, ⟨_, _, _, h1, r.gh.sub _ _ hp rfl, u1⟩, u2⟩
      · cases q2
    | _ => cases q2
/-- the run of the two ways gives d -/
structure MemoOk (mo : Nat → List (List Int) → Option MSp) (i j : Nat) (md : AS → Option D) (m : MS) (mv : M D) (a : AS) (d : D) : Prop where
  ex : ∃ (di dj : D) (ks : List NestedKey) (kind : Nat) (gl : List (List Int)) (S : MSp) (b1 b2 : AS), kind < 100 ∧ mdN i a = some di ∧ mdN j a = some dj ∧ md a = some (.memo kind (ghD gl)) ∧ keysD [di, dj] = some ks ∧
    mo kind gl = some S ∧ S.sp (.tup ks) = some d ∧ Simple d ∧ m a = .nx b1 ∧ mv b1 = .ok d b2 ∧ mdN i b2 = some di ∧ mdN j b2 = some dj ∧ md b2 = some (.memo kind (ghD gl)) ∧ b2.length = a.length
noncomputable def sMemo (mo : Nat → List (List Int) → Option MSp) (i j : Nat) (md : AS → Option D) (m : MS) (mv : M D) : MS := fun a => open Classical in
  if h : ∃ d, MemoOk mo i j md m mv a d then .ret (Classical.choose h) (a.map fun _ => .no) else .bad
theorem sMemo_of {mo : Nat → List (List Int) → Option MSp} {i j : Nat} {md : AS → Option D} {m : MS} {mv : M D} {a : AS} {d : D} (h : MemoOk mo i j md m mv a d) : sMemo mo i j md m mv a = .ret d (a.map fun _ => .no) := by
  have hx : ∃ d, MemoOk mo i j md m mv a d := ⟨d, h⟩
  unfold sMemo
  rw [dif_pos hx]
  congr 1
  obtain ⟨di, dj, ks, kind, gl, S, b1, b2, _, h1, h2, h3, h4, h5, h6, _⟩ := Classical.choose_spec hx
  obtain ⟨di', dj', ks', kind', gl', S', b1', b2', _, h1', h2', h3', h4', h5', h6', _⟩ := h
  rw [h1] at h1'; cases h1'
  rw [h2] at h2'; cases h2'
  rw [h3] at h3'
  have h3' := Option.some.inj h3'
  injection h3' with e1 e2
  have e2 := gh_inj e2
  subst e1 e2
  rw [h4] at h4'; cases h4'
  rw [h5] at h5'; cases h5'
  rw [h6] at h6'; cases h6'
  rfl
theorem Rel.none {B G0 H G : Hp} {a a' : AS} {σ : DL.St} (r : Rel C B G0 a σ H G) (hl : a'.length = a.length) (hn : ∀ s ∈ a', s = .no) : Rel C B G0 a' σ H G where
  gg := r.gg
  gh := r.gh
  bh := r.bh
  new := r.new
  len := hl.trans r.len
  slot := fun i s h => by rw [hn s (List.mem_of_getElem? h)]; trivial
  sep := fun i j s t p h1 _ o _ _ _ => by rw [hn s (List.mem_of_getElem? h1)] at o; cases o
end
end DL
end
section
set_option Elab.async false
set_option linter.all false
set_option maxRecDepth 100000
set_option maxHeartbeats 4000000
namespace DL
open PySem PySem.Spec PyProof.Rows L2
section
variable {X : Cx} {C : Cf} {W : WX} {pos : Pos}
def tPair (i j : Nat) : TE := fun σ H Q => ∃ v u, σ[i]? = some (some v) ∧ σ[j]? = some (some u) ∧ ∀ p, H p = none → Q (.ref p) (upd H p (.tup [v, u]))
theorem pe_pair (i j : Nat) {x y : Str} {k : Nat} {p1 p2 : Pos} (hx : PE X (.Name x p1) (tVar i)) (hy : PE X (.Name y p2) (tVar j)) (h1 : starEach [.Name x p1, .Name y p2] X.env = (false, eval (.Name x p1) X.env) :: starEach [.Name y p2] X.env := by rfl)
    (h2 : starEach [.Name y p2] X.env = (false, eval (.Name y p2) X.env) :: starEach [] X.env := by rfl) : PE X (.Tuple [.Name x p1, .Name y p2] k pos) (tPair i j) :=
  PE.weak (pe_tup (pa_cons hx (pa_cons hy pa_nil h2) h1)) fun σ H Q ⟨v, u, e1, e2, q⟩ => ⟨v, e1, u, e2, by show 2 ≤ sizeLine; decide, q⟩
theorem memo_at {H G : Hp} {v : V} {kind : Nat} {gl : List (List Int)} (s : Sub C G H) (h : Has C G v (.memo kind (ghD gl))) (hk : kind < 100) : ∃ q S xs, v = .ref q ∧ G q = some (tagO kind gl) ∧ C.mo kind gl = some S ∧ H q = some (dX C.P C.w q xs) ∧
    (xs.map (·.1)).Nodup ∧ ∀ x ∈ xs, KeyIn C.K G x.1 (.ref x.2.1) ∧ ∃ v d, RelV v x.2.2 ∧ S.sp x.1 = some d ∧ SHas C.K G v d := by
  cases h with
  | memo m =>
    rcases m with m | ⟨_, gl', e, m⟩
    · exact absurd m.1 (by omega)
    · have e := gh_inj e
      subst e
      obtain ⟨k2, gl2, e1, S, xs, h1, h2, h3, h4⟩ := s.tag _ _ m rfl
      obtain ⟨rfl, rfl⟩ := tag_inj e1
      exact ⟨_, S, xs, rfl, m, h1, h2, h3, h4⟩
theorem dgx_of {G H : Hp} {q b : Addr} {k : NestedKey} {S : MSp} {xs : List (NestedKey × Addr × Value)} (hP : X.prog = C.P) (hw : X.w = C.w) (hK : X.K = C.K) (s : Sub C G H) (hq : H q = some (dX C.P C.w q xs))
    (all : ∀ x ∈ xs, KeyIn C.K G x.1 (.ref x.2.1) ∧ ∃ v d, RelV v x.2.2 ∧ S.sp x.1 = some d ∧ SHas C.K G v d) (hk : KeyIn C.K G k (.ref b)) (hd : k.depth ≤ 8) : DGX X.prog X.w X.K H q b k xs := by
  rw [hP, hw, hK]
  exact ⟨hq, fun x hx => by
    obtain ⟨h1, v, d, h2, h3, h4⟩ := all x hx
    exact ⟨h1.imp fun _ _ z => s.sqT' z, S.dep _ (by rw [h3]; rfl)⟩, hk.imp fun _ _ z => s.sqT' z, hd⟩
theorem atKey_mem {xs : List (NestedKey × Addr × Value)} {k : NestedKey} {p : Addr × Value} (h : atKey xs k = some p) : (k, p) ∈ xs := by
  unfold atKey at h
  obtain ⟨y, h1, rfl⟩ := Option.map_eq_some_iff.mp h
  have h2 := List.find?_some h1
  have h3 := List.mem_of_find?_eq_some h1
  have : y.1 = k := of_decide_eq_true h2
  rw [← this]
  exact h3
theorem stored_mem {xs : List (NestedKey × Addr × Value)} {k : NestedKey} {b : Addr} {r : Value} {x : NestedKey × Addr × Value} (h : x ∈ storedH xs k b r) : (x ∈ xs) ∨ (x = (k, b, r)) ∨ (∃ c u, x = (k, c, r) ∧ (k, c, u) ∈ xs) := by
  unfold storedH at h
  split at h
  · obtain ⟨y, hy, rfl⟩ := List.mem_map.mp h
    unfold putAt
    split
    · rename_i e
      exact .inr (.inr ⟨y.2.1, y.2.2, by rw [e], by rw [← e]; exact hy⟩)
    · exact .inl hy
  · rcases List.mem_append.mp h with h | h
    · exact .inl h
    · exact .inr (.inl (List.mem_singleton.mp h))
theorem stored_nodup {xs : List (NestedKey × Addr × Value)} {k : NestedKey} {b : Addr} {r : Value} (h : (xs.map (·.1)).Nodup) : ((storedH xs k b r).map (·.1)).Nodup := by
  unfold storedH
  split
  · rw [keys_map_putAt]; exact h
  · rename_i hn
    rw [List.map_append, List.map_cons, List.map_nil]
    refine List.nodup_append.mpr ⟨h, by simp, fun a ha c hc => ?_⟩
    rw [List.mem_singleton.mp hc]
    intro e
    subst e
    obtain ⟨y, hy, e⟩ := List.mem_map.mp ha
    apply hn
    unfold atKey
    rw [Option.isSome_map, List.find?_isSome]
    exact ⟨y, hy, decide_eq_true e⟩
theorem Mut_ins {H : Hp} {p n : Addr} {o : HO} (hn : ∀ c dx fs, H n ≠ some (.ins c dx fs)) : ∀ p c dx fs, H p = some (.ins c dx fs) → upd H n o p = some (.ins c dx fs) := fun p c dx fs e => by
  rw [upd_ne (fun z => by subst z; exact hn _ _ _ e)]; exact e
/-- a memo's entry is put -/
theorem Rel.put {B G0 H G : Hp} {a : AS} {σ : DL.St} {q b : Addr} {k : NestedKey} {kind : Nat} {gl : List (List Int)} {S : MSp} {xs : List (NestedKey × Addr × Value)} {v : V} {d : D} {r : Value} (R : Rel C B G0 a σ H G) (ht : G q = some (tagO kind gl)) (hm : C.mo kind gl = some S) (hq : H q = some (dX C.P C.w q xs)) (hn : (xs.map (·.1)).Nodup)
    (all : ∀ x ∈ xs, KeyIn C.K G x.1 (.ref x.2.1) ∧ ∃ v d, RelV v x.2.2 ∧ S.sp x.1 = some d ∧ SHas C.K G v d) (hk : KeyIn C.K G k (.ref b)) (hS : S.sp k = some d) (hv : SHas C.K G v d) (hr : RelV v r) : Rel C B G0 a σ (upd H q (dX C.P C.w q (storedH xs k b r))) G := by
  have hall : ∀ x ∈ storedH xs k b r, KeyIn C.K G x.1 (.ref x.2.1) ∧ ∃ v d, RelV v x.2.2 ∧ S.sp x.1 = some d ∧ SHas C.K G v d := fun x hx => by
    rcases stored_mem hx with h | h | ⟨c, u, h, h2⟩
    · exact all x h
    · subst h; exact ⟨hk, v, d, hr, hS, hv⟩
    · subst h; exact ⟨(all _ h2).1, v, d, hr, hS, hv⟩
  exact {
    gg := R.gg
    gh := ⟨fun p o e t => by
        rw [upd_ne (fun z => by subst z; rw [ht] at e; cases e; cases t)]
        exact R.gh.sub p o e t, fun p o e t => by
        obtain ⟨k2, gl2, e1, m⟩ := R.gh.tag p o e t
        refine ⟨k2, gl2, e1, ?_⟩
        by_cases z : p = q
        · subst z
          rw [ht] at e
          have e := Option.some.inj e
          rw [e1] at e
          obtain ⟨rfl, rfl⟩ := tag_inj e
          exact ⟨S, _, hm, upd_same, stored_nodup hn, hall⟩
        · exact m.imp (fun _ _ z => z) (fun _ _ z => z) fun ys hy => by rw [upd_ne z]; exact hy⟩
    bh := ⟨fun p o e t => by
        by_cases z : p = q
        · subst z
          have := R.bh.keep p o e t
          rw [hq] at this
          cases this
          cases t
        · rw [upd_ne z]; exact R.bh.keep p o e t, fun p e => by
        by_cases z : p = q
        · subst z; rw [upd_same]; exact fun z => nomatch z
        · rw [upd_ne z]; exact R.bh.stay p e, fun p j dd m => by
        rcases R.bh.mem p j dd m with m | ⟨h1, g2, h2, h3⟩
        · exact .inl m
        · refine .inr ⟨h1, g2, h2, ?_⟩
          rw [upd_ne (fun z => by subst z; rw [hq] at h3; cases h3)]
          exact h3⟩
    new := R.new
    len := R.len
    slot := fun i s h => by
      have w := R.slot i s h
      by_cases ow : isOwn s = true
      · obtain ⟨p, o, e1, e2, e3, e4, e5⟩ := (SlotOk.own ow).mp w
        refine (SlotOk.own ow).mpr ⟨p, o, e1, ?_, e3, e4, e5⟩
        rw [upd_ne (fun z => by subst z; rw [ht] at e4; cases e4)]
        exact e2
      · cases s with
        | no => trivial
        | val d => exact w
        | own _ => exact absurd rfl ow
        | dK _ => exact absurd rfl ow
        | dT _ => exact absurd rfl ow
    sep := R.sep }
end
end DL
end
section
set_option Elab.async false
set_option linter.all false
set_option maxRecDepth 100000
set_option maxHeartbeats 4000000
namespace DL
open PySem PySem.Spec PyProof.Rows L2
section
variable {X : Cx} {C : Cf} {W : WX} {p1 p2 p3 p4 p5 p6 p7 p8 p9 p10 p11 p12 p13 p14 p15 : Pos}
theorem pairKey {G : Hp} {p : Addr} {v u : V} {di dj : D} {ks : List NestedKey} (hp : G p = some (.tup [v, u])) (h1 : Has C G v di) (h2 : Has C G u dj) (hk : keysD [di, dj] = some ks) : KeyIn C.K G (.tup ks) (.ref p) :=
  .tup (.of hp) (keys_has (.cons h1 (.cons h2 .nil)) hk)
theorem run_ok {α : Type} {m : M α} {B G0 H G : Hp} {a a' : AS} {σ : DL.St} {x : α} {k : Hp → AS → Hp → Hp → α → Prop} (r : Rel C B G0 a σ H G) (e : m a = .ok x a') (h : ∀ H' G', Grow C G G' → Rel C B G0 a' σ H' G' → k B a' H' G' x) : run C W m σ H G k :=
  ⟨B, G0, a, r, by rw [e]; exact h⟩
theorem d_memo {i j : Nat} {x y : Str} {e1 e2 e3 : Expr} {ft : L2.St → Hp → V → Prop} {md : AS → Option D} {pre : List Stmt} {m : MS} {val : Expr} {mv : M D} {k1 k2 k3 : Nat} (hu : X.A.units + 65 < cLine) (hP : X.prog = C.P) (hw : X.w = C.w) (hK : X.K = C.K)
    (s1 : SV X C e1 ft md) (s2 : SV X C e2 ft md) (s3 : SV X C e3 ft md)
    (hm : ∀ (rest : List Stmt) (u : TS), PSs X rest u → PSs X (pre ++ rest) (fun Dn σ H => tS C W m { Dn with nx := fun σ' H' => u Dn σ' H' } σ H)) (hv : DE X C W val mv)
    (hi : X.N[i]? = some x := by rfl) (hj : X.N[j]? = some y := by rfl)
    (vi : Vis X.env.scope x := by first | exact Or.inl rfl | exact Or.inr (Or.inl rfl) | exact Or.inr (Or.inr rfl)) (vj : Vis X.env.scope y := by first | exact Or.inl rfl | exact Or.inr (Or.inl rfl) | exact Or.inr (Or.inr rfl))
    (hd1 : (x == ("__debug__" : Str)) = false := by decide) (hd2 : (x == ("__classdict__" : Str)) = false := by decide) (hd3 : (y == ("__debug__" : Str)) = false := by decide) (hd4 : (y == ("__classdict__" : Str)) = false := by decide)
    (h1 : ∀ a b : Pos, starEach [.Name x a, .Name y b] X.env = (false, eval (.Name x a) X.env) :: starEach [.Name y b] X.env := by intro _ _; rfl)
    (h2 : ∀ b : Pos, starEach [.Name y b] X.env = (false, eval (.Name y b) X.env) :: starEach [] X.env := by intro _; rfl)
    (hs : swapsWith val (some (.Subscript e2 (.Tuple [.Name x p5, .Name y p6] k2 p7) p8)) p9.line X.env = pure false := by rfl)
    (hb : behindInMarks .NotIn e1 = false := by rfl) :
    DSs X C W [.If (.Compare (.Tuple [.Name x p1, .Name y p2] k1 p3) [.NotIn] [e1] p4) (pre ++ [.Assign [.Subscript e2 (.Tuple [.Name x p5, .Name y p6] k2 p7) p8] val p9]) [] p10,
      .Return (some (.Subscript e3 (.Tuple [.Name x p11, .Name y p12] k3 p13) p14)) p15] (sMemo C.mo i j md m mv) := by
  have key : ∀ {a b c : Pos} {k : Nat}, PE X (.Tuple [.Name x a, .Name y b] k c) (tPair i j) := fun {a b c k} => pe_pair i j (pe_var hi vi hd1 hd2) (pe_var hj vj hd3 hd4) (h1 _ _) (h2 _)
  refine ⟨PSs.weak (pss_cons (ps_if (pt_cmp (pc_ninX hu key s1.pe) hb) (hm _ _ (pss_one (ps_putX hu s2.pe key hv.pe hs))) pss_nil) (pss_one (ps_ret (pe_getX hu s3.pe key (fun _ _ => rfl))))) fun Dn σ H ⟨G, B, G0, a, r, h⟩ => ?_⟩
  have nb : sMemo C.mo i j md m mv a ≠ .bad := fun z => by rw [z] at h; exact h
  have hx : ∃ d, MemoOk C.mo i j md m mv a d := by
    by_cases hx : ∃ d, MemoOk C.mo i j md m mv a d
    · exact hx
    · exfalso
      apply nb
      unfold sMemo
      rw [dif_neg hx]
  obtain ⟨d, hx⟩ := hx
  rw [sMemo_of hx] at h
  obtain ⟨di, dj, ks, kind, gl, S, b1, b2, hk, hdi, hdj, hmd, hks, hmo, hsp, hsi, em, ev, hbi, hbj, hbd, hbl⟩ := hx
  have fin : ∀ {a' : AS} {v : V} {σ' : DL.St} {H' G' : Hp}, a'.length = a.length → Grow C G G' → Rel C B G0 a' σ' H' G' → Has C G' v d → Dn.rt v H' := fun {a' v σ' H' G'} hl g r' hv =>
    h v σ' H' G' g (r'.none (by rw [List.length_map, hl]) (fun s hs => by obtain ⟨_, _, rfl⟩ := List.mem_map.mp hs; rfl)) hv
  have dep : (NestedKey.tup ks).depth ≤ 8 := S.dep _ (by rw [hsp]; rfl)
  obtain ⟨v1, w1, w2⟩ := r.slot i _ (mdN_val hdi)
  obtain ⟨v2, w3, w4⟩ := r.slot j _ (mdN_val hdj)
  obtain ⟨q0, f1, f2⟩ := s1.has B G0 a σ H G _ r hmd
  refine ⟨v1, v2, w1, w3, fun q1 n1 => ?_⟩
  have r1 := r.alloc (o := .tup [v1, v2]) n1
  have g1 : Grow C G (upd G q1 (.tup [v1, v2])) := .new (r.gh.free n1)
  have key1 := pairKey (C := C) (G := upd G q1 (.tup [v1, v2])) upd_same (w2.mono g1) (w4.mono g1) hks
  obtain ⟨q, S', xs, rfl, t1, t2, t3, t4, t5⟩ := memo_at r1.gh (f2.mono g1) hk
  rw [hmo] at t2; cases t2
  have insK : ∀ {H : Hp} {p : Addr} {o : HO}, H p = none → ∀ b c dx fs, H b = some (.ins c dx fs) → upd H p o b = some (.ins c dx fs) := fun n b c dx fs e => by rw [upd_ne (ne_of_none e n)]; exact e
  have f1' := s1.keep _ _ _ _ f1 (insK (o := .tup [v1, v2]) n1)
  refine ⟨.ref q, f1', q, q1, _, xs, rfl, rfl, dgx_of hP hw hK r1.gh t3 t5 key1 dep, _, rfl, ?_⟩
  cases hat : atKey xs (.tup ks) with
  | some p =>
    -- it is there
    rw [if_neg (by simp)]
    show ∃ v, ft σ _ v ∧ _
    refine ⟨.ref q, s3.keep _ _ _ _ (by
      obtain ⟨z, z1, _⟩ := s3.has B G0 a σ H G _ r hmd
      obtain ⟨z', z1', _⟩ := s1.has B G0 a σ H G _ r hmd
      exact f1') (fun _ _ _ _ e => e), ?_⟩
    refine ⟨v1, v2, w1, w3, fun q2 n2 => ?_⟩
    have r2 := r1.alloc (o := .tup [v1, v2]) n2
    have g2 : Grow C (upd G q1 (.tup [v1, v2])) (upd (upd G q1 (.tup [v1, v2])) q2 (.tup [v1, v2])) := .new (r1.gh.free n2)
    have key2 := pairKey (C := C) (G := upd (upd G q1 (.tup [v1, v2])) q2 (.tup [v1, v2])) upd_same ((w2.mono g1).mono g2) ((w4.mono g1).mono g2) hks
    have t5' : ∀ x ∈ xs, KeyIn C.K (upd (upd G q1 (.tup [v1, v2])) q2 (.tup [v1, v2])) x.1 (.ref x.2.1) ∧ ∃ v d, RelV v x.2.2 ∧ S.sp x.1 = some d ∧ SHas C.K (upd (upd G q1 (.tup [v1, v2])) q2 (.tup [v1, v2])) v d := fun x hx => by
      obtain ⟨z1, v, dd, z2, z3, z4⟩ := t5 x hx
      exact ⟨z1.imp fun _ _ z => g2.sqT z, v, dd, z2, z3, z4.imp fun _ _ z => g2.tupG z⟩
    obtain ⟨_, v, dd, z2, z3, z4⟩ := t5' _ (atKey_mem hat)
    rw [hsp] at z3; cases z3
    exact ⟨q, q2, _, xs, p, v, rfl, rfl, dgx_of hP hw hK r2.gh (by rw [upd_ne (ne_of_none t3 n2)]; exact t3) t5' key2 dep, hat, z2, fin rfl (g1.trans g2) r2 z4.has⟩
  | none =>
    rw [if_pos (by simp)]
    refine ⟨_, B, G0, a, r1, ?_⟩
    rw [em]
    intro σ' H3 G3 g3 r3
    refine ⟨G3, run_ok r3 ev fun H4 G4 g4 r4 vv hvv => ?_⟩
    obtain ⟨u0, f3, f4⟩ := s2.has B G0 b2 σ' H4 G4 _ r4 hbd
    obtain ⟨u1, w1', w2'⟩ := r4.slot i _ (mdN_val hbi)
    obtain ⟨u2, w3', w4'⟩ := r4.slot j _ (mdN_val hbj)
    refine ⟨u0, f3, u1, u2, w1', w3', fun q5 n5 => ?_⟩
    have r5 := r4.alloc (o := .tup [u1, u2]) n5
    have g5 : Grow C G4 (upd G4 q5 (.tup [u1, u2])) := .new (r4.gh.free n5)
    have key5 := pairKey (C := C) (G := upd G4 q5 (.tup [u1, u2])) upd_same (w2'.mono g5) (w4'.mono g5) hks
    obtain ⟨q', S', ys, rfl, y1, y2, y3, y4, y5⟩ := memo_at r5.gh (f4.mono g5) hk
    rw [hmo] at y2; cases y2
    have hlen : ys.length ≤ sizeLine := by
      have := S.cap (ys.map (·.1)) y4 fun k hk => by
        obtain ⟨x, hx, rfl⟩ := List.mem_map.mp hk
        obtain ⟨_, v, dd, z2, z3, z4⟩ := y5 x hx
        rw [z3]; rfl
      rw [List.length_map] at this
      rw [sizeLine_eq]
      omega
    refine ⟨q', q5, _, ys, rfl, rfl, dgx_of hP hw hK r5.gh y3 y5 key5 dep, hlen, fun rr hrr => ?_⟩
    have sv : SHas C.K (upd G4 q5 (.tup [u1, u2])) vv d := (hvv.mono g5).simple hsi
    have r6 := r5.put y1 hmo y3 y4 y5 key5 hsp sv hrr
    have hdx : dX X.prog X.w q' (storedH ys (.tup ks) q5 rr) = dX C.P C.w q' (storedH ys (.tup ks) q5 rr) := by rw [hP, hw]
    rw [hdx]
    have keep6 : ∀ b c dx fs, upd H4 q5 (.tup [u1, u2]) b = some (.ins c dx fs) → upd (upd H4 q5 (.tup [u1, u2])) q' (dX C.P C.w q' (storedH ys (.tup ks) q5 rr)) b = some (.ins c dx fs) := fun b c dx fs e => by
      rw [upd_ne (fun z => by subst z; rw [y3] at e; cases e)]; exact e
    have f5 := s3.keep _ _ _ _ (s2.keep _ _ _ _ f3 (insK (o := .tup [u1, u2]) n5)) keep6
    refine ⟨.ref q', f5, u1, u2, w1', w3', fun q7 n7 => ?_⟩
    have r7 := r6.alloc (o := .tup [u1, u2]) n7
    have g7 : Grow C (upd G4 q5 (.tup [u1, u2])) (upd (upd G4 q5 (.tup [u1, u2])) q7 (.tup [u1, u2])) := .new (r6.gh.free n7)
    have key7 := pairKey (C := C) (G := upd (upd G4 q5 (.tup [u1, u2])) q7 (.tup [u1, u2])) upd_same ((w2'.mono g5).mono g7) ((w4'.mono g5).mono g7) hks
    obtain ⟨c, hc⟩ := atKey_storedH ys (.tup ks) q5 rr
    refine ⟨q', q7, _, _, _, vv, rfl, rfl, dgx_of (S := S) (xs := storedH ys (.tup ks) q5 rr) hP hw hK r7.gh (by
      rw [upd_ne (fun z => by rw [← z, upd_same] at n7; cases n7), upd_same]) (fun x hx => ?_) key7 dep, hc, hrr, fin hbl ?_ r7 ((hvv.mono g5).mono g7)⟩
    · have all6 : KeyIn C.K (upd G4 q5 (.tup [u1, u2])) x.1 (.ref x.2.1) ∧ ∃ v d, RelV v x.2.2 ∧ S.sp x.1 = some d ∧ SHas C.K (upd G4 q5 (.tup [u1, u2])) v d := by
        rcases stored_mem hx with h | h | ⟨c, u, h, h2⟩
        · exact y5 x h
        · subst h; exact ⟨key5, vv, d, hrr, hsp, sv⟩
        · subst h; exact ⟨(y5 _ h2).1, vv, d, hrr, hsp, sv⟩
      obtain ⟨z1, v, dd, z2, z3, z4⟩ := all6
      exact ⟨z1.imp fun _ _ z => g7.sqT z, v, dd, z2, z3, z4.imp fun _ _ z => g7.tupG z⟩
    · exact ((g1.trans g3).trans g4).trans (g5.trans g7)
/-- nothing ahead, one statement ahead -/
theorem pre_nil : ∀ (rest : List Stmt) (u : TS), PSs X rest u → PSs X ([] ++ rest) (fun Dn σ H => tS C W RS.nx { Dn with nx := fun σ' H' => u Dn σ' H' } σ H) := fun rest u h =>
  PSs.weak h fun Dn σ H ⟨G, B, G0, a, r, q⟩ => q σ H G .refl r
theorem pre_one {st : Stmt} {m : MS} (h : DS X C W st m) : ∀ (rest : List Stmt) (u : TS), PSs X rest u → PSs X ([st] ++ rest) (fun Dn σ H => tS C W m { Dn with nx := fun σ' H' => u Dn σ' H' } σ H) := fun rest u hr =>
  pss_cons h.ps hr
end
end DL
end
section
set_option Elab.async false
set_option linter.all false
set_option maxRecDepth 100000
set_option maxHeartbeats 4000000
/-! fields, methods, new memos -/
namespace DL
open PySem PySem.Spec PyProof.Rows L2
section
variable {X : Cx} {C : Cf} {W : WX} {pos p : Pos}
theorem d_fld {e : Expr} {m : M D} (f : Str) (c : Cls C.K (C.xa 50)) (n : NoAttr C.K (C.xa 50) f) (h : DE X C W e m) (hK : X.K = C.K := by rfl) (hb : attributeBase e f X.env (eval e X.env) = eval e X.env := by rfl) : DE X C W (.Attribute e f pos) (e1 (fldF f) m) :=
  ⟨PE.weak (pe_fld h.pe hb) fun σ H Q ⟨G, q⟩ => ⟨G, run_imp (run_bind q) fun _ _ H1 G1 x g1 q1 v hv => by
    obtain ⟨d, e, B, G0, a, r, k⟩ := run_lft q1
    cases x with
    | obj i fs =>
      unfold fldF at e
      split at e
      · rename_i heq
        cases heq
        cases hv with
        | obj hp hf =>
          obtain ⟨u, u1, u2⟩ := hf.lookup e
          exact ⟨_, _, _, _, u, rfl, r.gh.sub _ _ hp rfl, by rw [hK]; exact c, by rw [hK]; exact n, u1, k H1 G1 .refl r u u2⟩
      · cases e
    | _ => cases e⟩⟩
def methOk (m : Str) : D → Bool
  | .obj 50 fs => (fs.lookup m).isNone
  | _ => false
def okU (b : Bool) : Option Unit := if b = true then some () else none
def eMeth (m : Str) (F : Fn) (mo : M D) (ma : M (List D)) : M D := mo.bind fun x => (lft (okU (methOk m x))).bind fun _ => ma.bind fun ds a => match F (x :: ds) with
  | .ok d => .ok d a
  | .exc c => .exc c a
  | .bad => .bad
structure DMt (P : Program) (w : World) (K : PySem.W.Frag) (mg : Str → Option Value) (base : Heap) (C : Cf) (m : Str) (ps : List Str) (k : Nat) (F : Fn) : Prop where
  ex : ∃ f fd, Meth K (C.xa 50) m f ∧ Binds K fd ps [] ∧ FnOk P w K mg base (L2.CX P w) k f fd ps (spD C F)
theorem DMt.mono {P : Program} {w : World} {K : PySem.W.Frag} {mg : Str → Option Value} {base : Heap} {x : Str} {ps : List Str} {j k : Nat} {F : Fn} (h : DMt P w K mg base C x ps j F) (hk : j ≤ k) : DMt P w K mg base C x ps k F := by
  obtain ⟨f, fd, h1, h3, h4⟩ := h.ex
  exact ⟨f, fd, h1, h3, h4.mono hk⟩
def tMethS (Cc : Addr) (m : Str) (sp : Sp) (E : L2.St → XK) (ta : TE) (t : TA) : TE := fun σ H Q => ta σ H fun x H1 => ∃ a dx fs, x = .ref a ∧ H1 a = some (.ins Cc dx fs) ∧ fs.lookup m = none ∧ t σ H1 fun vs H2 => sp (x :: vs) H2 Q (E σ)
theorem pe_methE {CX : CXT} {k : Nat} {f Cc : Addr} {fd : FuncData} {ps : List Str} {sp : Sp} {E : L2.St → XK} {m : Str} {apos : Pos} {e o : Expr} {es : List Expr} {ta : TE} {t : TA} {pl : Sem Bool} (he : PE X o ta) (c : Cls X.K Cc) (hm : Meth X.K Cc m f) (F : FnOk X.prog X.w X.K X.mg X.base CX k f fd ps sp) (hr : Room k X.A) (hb : Binds X.K fd ps []) (hx : ∀ σ, PassesAt CX X σ (E σ)) (ha : PA X (e :: es) t)
    (hst : starEach (e :: es) X.env = (false, eval e X.env) :: starEach es X.env := by rfl) (hpl : (backTo pos (starEach es X.env)).any (·.1) = false := by rfl)
    (ht : eval (.Call (.Attribute o m apos) (e :: es) [] pos) X.env = (do
      let ov ← eval o X.env
      standAt apos.atName
      let (f, first) ← holding [ov] (getMethod ov m pl)
      callWith pos f first (backTo pos (starEach (e :: es) X.env)) (backToKw pos (keywordEach [] X.env))) := by rfl) :
    PE X (.Call (.Attribute o m apos) (e :: es) [] pos) (tMethS Cc m sp E ta t) := by
  refine ⟨fun pins s σ H Q I h => ?_⟩
  refine PySem.W.methodCall_KW (pl := pl) (thn (he.run pins s σ H _ I h) fun u s1 ⟨x, H1, I1, rx, a, dx, fs, ex, ea, l, q⟩ => ?_) ht
  subst ex
  obtain rfl : u = Value.ref a := rx
  refine getmeth_ok I1 ea c hm l ?_
  refine PySem.W.callWith_K (first := [.ref a]) (h₀ := X.base) I.ok.mod.kin hm.kp (thn (ha.run pos pins s1 σ H1 _ I1 q) fun us s2 ⟨vs, H2, I2, r, q2⟩ => ⟨I2.kIn, ?_⟩) hst hpl
  exact run_fnS (us := .ref a :: us) (vs := .ref a :: vs) F hr hb (hx σ) I2 (.cons rfl r) q2
theorem d_meth {m : Str} {ps : List Str} {k : Nat} {F : Fn} {apos : Pos} {e o : Expr} {es : List Expr} {mo : M D} {ma : M (List D)} {pl : Sem Bool} (f : DMt X.prog X.w X.K X.mg X.base C m ps k F) (c : Cls C.K (C.xa 50)) (hr : Room k X.A) (tk : Takes X W) (ho : DE X C W o mo) (ha : DA X C W (e :: es) ma)
    (hK : X.K = C.K := by rfl) (hst : starEach (e :: es) X.env = (false, eval e X.env) :: starEach es X.env := by rfl) (hpl : (backTo pos (starEach es X.env)).any (·.1) = false := by rfl)
    (ht : eval (.Call (.Attribute o m apos) (e :: es) [] pos) X.env = (do
      let ov ← eval o X.env
      standAt apos.atName
      let (f, first) ← holding [ov] (getMethod ov m pl)
      callWith pos f first (backTo pos (starEach (e :: es) X.env)) (backToKw pos (keywordEach [] X.env))) := by rfl) :
    DE X C W (.Call (.Attribute o m apos) (e :: es) [] pos) (eMeth m F mo ma) := by
  obtain ⟨f, fd, h1, h3, h4⟩ := f.ex
  refine ⟨PE.weak (pe_methE (pl := pl) ho.pe (by rw [hK]; exact c) h1 h4 hr h3 (fun σ => passAt tk σ) ha.pa hst hpl ht) fun σ H Q ⟨G, q⟩ => ⟨G, run_imp (run_bind q) fun _ _ H1 G1 x g1 q1 v hv => ?_⟩⟩
  obtain ⟨_, e, B, G0, a, r, q2⟩ := run_lft (run_bind q1)
  have hx : methOk m x = true := by
    cases hx : methOk m x with
    | true => rfl
    | false => rw [hx] at e; cases e
  unfold methOk at hx
  split at hx
  · rename_i fs
    have nn : fs.lookup m = none := by
      cases h : fs.lookup m with
      | none => rfl
      | some d => rw [h] at hx; cases hx
    cases hv with
    | obj hp hf =>
      refine ⟨_, _, _, rfl, r.gh.sub _ _ hp rfl, hf.lookupN nn, G1, run_imp (run_bind (q2 H1 G1 .refl r)) fun _ _ H2 G2 ds g2 q3 vs hvs => ?_⟩
      exact run_call (HasAll.cons ((Has.obj hp hf).mono g2) hvs) q3
  · cases hx
/-- {} as a memo -/
def eNewM (mo : Nat → List (List Int) → Option MSp) (kind : Nat) (gf : AS → Option (List (List Int))) : M D := fun a => match gf a with
  | some gl => if (mo kind gl).isSome = true then .ok (.memo kind (ghD gl)) a else .bad
  | none => .bad
theorem Ext.memo {G H : Hp} {q : Addr} {kind : Nat} {gl : List (List Int)} {S : MSp} (s : Sub C G H) (n : H q = none) (hS : C.mo kind gl = some S) : Ext C G H (upd G q (tagO kind gl)) (upd H q (dX C.P C.w q [])) where
  gg := .new (s.free n)
  gh := ⟨fun p o e t => by
    by_cases z : p = q
    · subst z; rw [upd_same] at e; cases e; cases t
    · rw [upd_ne z] at e ⊢; exact s.sub _ _ e t, fun p o e t => by
    by_cases z : p = q
    · subst z; rw [upd_same] at e; cases e
      exact ⟨kind, gl, rfl, S, [], hS, upd_same, List.nodup_nil, fun x hx => absurd hx List.not_mem_nil⟩
    · rw [upd_ne z] at e
      obtain ⟨j, gl', e1, m⟩ := s.tag p o e t
      exact ⟨j, gl', e1, m.imp (fun a vs h => (Grow.new (C := C) (s.free n)).sqT h) (fun a vs h => (Grow.new (C := C) (s.free n)).tupG h) fun xs hx => by rw [upd_ne z]; exact hx⟩⟩
  hh := .new n
  new := fun r x h1 hk h2 => by rw [upd_ne (fun z => by rw [z, n] at h1; cases h1)]; exact h2
theorem d_newM {mo : Nat → List (List Int) → Option MSp} {kind : Nat} {gf : AS → Option (List (List Int))} (hP : X.prog = C.P) (hw : X.w = C.w) (hmo : C.mo = mo) (hk : kind < 100 := by decide) : DE X C W (.Dict [] [] pos) (eNewM mo kind gf) :=
  ⟨PE.weak pe_newX fun σ H Q ⟨G, B, G0, a, r, q⟩ q1 n1 => by
    subst hmo
    unfold eNewM at q
    cases hg : gf a with
    | none => rw [hg] at q; exact q.elim
    | some gl =>
      rw [hg] at q
      simp only at q
      by_cases hS : (C.mo kind gl).isSome = true
      · rw [if_pos hS] at q
        obtain ⟨S, hS⟩ := Option.isSome_iff_exists.mp hS
        have ex := Ext.memo (q := q1) r.gh n1 hS
        rw [hP, hw]
        exact q _ _ ex.gg (r.ext ex) _ (.memo (.inr ⟨hk, gl, rfl, upd_same⟩))
      · rw [if_neg hS] at q; exact q.elim⟩
end
end DL
end
section
set_option Elab.async false
set_option linter.all false
set_option maxRecDepth 100000
set_option maxHeartbeats 4000000
/-! Table(book) -/
namespace DL
open PySem PySem.Spec PyProof.Rows L2
/-- ints of a tuple -/
def intsOf : List D → Option (List Int)
  | [] => some []
  | .int i :: r => (intsOf r).map (i :: ·)
  | _ => none
def wordsOf : List D → Option (List (List Int))
  | [] => some []
  | .tup w :: r => (intsOf w).bind fun w => (wordsOf r).map (w :: ·)
  | _ => none
theorem intsOf_eq : ∀ {ds : List D} {ns : List Int}, intsOf ds = some ns → ds = ns.map D.int
  | [], _, h => by cases h; rfl
  | d :: r, ns, h => by
    cases d with
    | int i =>
      unfold intsOf at h
      obtain ⟨ms, e, rfl⟩ := Option.map_eq_some_iff.mp h
      rw [List.map_cons, intsOf_eq e]
    | _ => cases h
@[simp] theorem intsOf_map : ∀ ns : List Int, intsOf (ns.map D.int) = some ns
  | [] => rfl
  | n :: ns => by rw [List.map_cons]; unfold intsOf; rw [intsOf_map ns]; rfl
@[simp] theorem wordsOf_map : ∀ ws : List (List Int), wordsOf (ws.map fun w => .tup (w.map D.int)) = some ws
  | [] => rfl
  | w :: ws => by rw [List.map_cons]; unfold wordsOf; rw [intsOf_map, wordsOf_map ws]; rfl
/-- what Table(book) makes: only of a book for which a memo is known -/
def tableD (mo : Nat → List (List Int) → Option MSp) (L : Int) (ws : List D) (n : Int) : Option D := (wordsOf ws).bind fun w => if (mo 0 ([L] :: w)).isSome = true then some (.obj 50 [("letters", .int L), ("words", .tup ws), ("length", .int n), ("known", .memo 0 (ghD ([L] :: w)))]) else none
def delP (H : Hp) (p : Addr) : Hp := fun r => if r = p then none else H r
theorem delP_ne {H : Hp} {p r : Addr} (h : r ≠ p) : delP H p r = H r := if_neg h
theorem delP_self {H : Hp} {p : Addr} : delP H p p = none := if_pos rfl
/-- a heap in which p is being made -/
structure IS (C : Cf) (G0 H0 G H : Hp) (p : Addr) (fs : List (Str × V)) : Prop where
  gg : Grow C G0 G
  gh : Sub C G H
  hh : Grow C (delP H0 p) H
  new : ∀ r o, H0 r = some o → kp o = true → r ≠ p → G0 r = none → G r = none
  hp : ∃ dx, H p = some (.ins (C.xa 50) dx fs)
  gp : G p = none
section
variable {C : Cf} {G0 H0 G H : Hp} {p : Addr} {fs : List (Str × V)}
theorem Grow.del {H1 : Hp} (g : Grow C H H1) (h : Grow C (delP H0 p) H) : Grow C (delP H0 p) H1 := h.trans g
/-- a value is reckoned -/
theorem IS.run {H1 G1 : Hp} {a' : AS} {σ : L2.St} (s : IS C G0 H0 G H p fs) (r : Rel C H G a' σ H1 G1) : IS C G0 H0 G1 H1 p fs where
  gg := s.gg.trans r.gg
  gh := r.gh
  hh := s.hh.trans r.bh
  new := fun q o h1 hk h2 h3 => r.new q o (s.hh.keep q o (by rw [delP_ne h2]; exact h1) (kp_ext hk)) hk (s.new q o h1 hk h2 h3)
  hp := by
    obtain ⟨dx, e⟩ := s.hp
    exact ⟨dx, r.bh.keep _ _ e rfl⟩
  gp := by
    obtain ⟨dx, e⟩ := s.hp
    exact r.new p _ e rfl s.gp
/-- a field is stored -/
theorem IS.put {dx : Addr} {gs : List (Str × V)} (s : IS C G0 H0 G H p fs) : IS C G0 H0 G (upd H p (.ins (C.xa 50) dx gs)) p gs where
  gg := s.gg
  gh := s.gh.keep fun q x hq e => by rw [upd_ne (fun z => hq (by rw [z]; exact s.gp))]; exact e
  hh := ⟨fun q o e t => by
      have z : q ≠ p := fun z => by subst z; rw [delP_self] at e; cases e
      rw [upd_ne z]; exact s.hh.keep q o e t, fun q e => by
      by_cases z : q = p
      · subst z; rw [upd_same]; exact fun z => nomatch z
      · rw [upd_ne z]; exact s.hh.stay q e, fun q k d m => by
      rcases s.hh.mem q k d m with m | ⟨h1, gl, h2, h3⟩
      · exact .inl m
      · refine .inr ⟨h1, gl, h2, ?_⟩
        rw [upd_ne (fun z => by subst z; obtain ⟨dx, e⟩ := s.hp; rw [e] at h3; cases h3)]
        exact h3⟩
  new := s.new
  hp := ⟨dx, upd_same⟩
  gp := s.gp
/-- something new is laid and frozen -/
theorem IS.ext {G1 H1 : Hp} (s : IS C G0 H0 G H p fs) (e : Ext C G H G1 H1) : IS C G0 H0 G1 H1 p fs where
  gg := s.gg.trans e.gg
  gh := e.gh
  hh := s.hh.trans e.hh
  new := fun q o h1 hk h2 h3 => e.new q o (s.hh.keep q o (by rw [delP_ne h2]; exact h1) (kp_ext hk)) hk (s.new q o h1 hk h2 h3)
  hp := by
    obtain ⟨dx, h⟩ := s.hp
    exact ⟨dx, e.hh.keep _ _ h rfl⟩
  gp := by
    obtain ⟨dx, h⟩ := s.hp
    exact e.new p _ h rfl s.gp
theorem rel_self {a : AS} {σ : L2.St} (s : Sub C G H) (hl : a.length = σ.length) (h : ∀ (i : Nat) (t : DL.Slot), a[i]? = some t → ∃ d v, t = DL.Slot.val d ∧ σ[i]? = some (some v) ∧ Has C G v d) : Rel C H G a σ H G where
  gg := .refl
  gh := s
  bh := .refl
  new := fun _ _ _ _ h => h
  len := hl
  slot := fun i t e => by
    obtain ⟨d, v, rfl, h1, h2⟩ := h i t e
    exact ⟨v, h1, h2⟩
  sep := fun i j s t p e _ o _ _ _ => by
    obtain ⟨d, v, rfl, _⟩ := h i s e
    cases o
end
/-- the promise of __init__: after it p may be frozen -/
def spInit (C : Cf) (mo : Nat → List (List Int) → Option MSp) (FL : Fn) : Sp := fun vs H Q _ => ∃ p v d G L ws n t, vs = [.ref p, v] ∧ IS C G H G H p [] ∧ Has C G v d ∧ ixF d (.int 0) = some (.int L) ∧ ixF d (.int 1) = some (.tup ws) ∧ FL [d] = .ok (.int n) ∧ tableD mo L ws n = some t ∧
  ∀ H' G' fs, IS C G H G' H' p fs → (∀ dx, Has C (upd G' p (.ins (C.xa 50) dx fs)) (.ref p) t) → Q .non H'
theorem Has.int_inv {C : Cf} {G : Hp} {y : V} {i : Int} (h : Has C G y (.int i)) : y = .int i := by cases h; rfl
theorem flds4 (a b c d : V) : putF "known" d (putF "length" c (putF "words" b (putF "letters" a []))) = ([("letters", a), ("words", b), ("length", c), ("known", d)] : List (Str × V)) := by
  have n1 : ¬ (("letters" : Str) = "words") := by decide +kernel
  have n2 : ¬ (("letters" : Str) = "length") := by decide +kernel
  have n3 : ¬ (("letters" : Str) = "known") := by decide +kernel
  have n4 : ¬ (("words" : Str) = "length") := by decide +kernel
  have n5 : ¬ (("words" : Str) = "known") := by decide +kernel
  have n6 : ¬ (("length" : Str) = "known") := by decide +kernel
  simp only [putF, if_neg n1, if_neg n2, if_neg n3, if_neg n4, if_neg n5, if_neg n6]
section
variable {P : Program} {w : World} {mg : Str → Option Value} {base : Heap} {C : Cf} {W : WX}
theorem is_val {H0 G0 G H : Hp} {p : Addr} {fs : List (Str × V)} {v : V} {d e : D} {m : M D} {K : VK} {σ : L2.St} (s : IS C G0 H0 G H p fs) (hσ : σ = [some (.ref p), some v]) (hv : Has C G v d) (hm : m [DL.Slot.val (.ref p), .val d] = .ok e [DL.Slot.val (.ref p), .val d])
    (k : ∀ y H1 G1, Grow C G G1 → IS C G0 H0 G1 H1 p fs → Has C G1 y e → K y H1) : tD C W m σ H K := by
  subst hσ
  have r0 : Rel C H G [DL.Slot.val (.ref p), .val d] [some (.ref p), some v] H G := rel_self s.gh rfl fun i t h => by
    match i, h with
    | 0, h => cases h; exact ⟨_, _, rfl, rfl, .ref p⟩
    | 1, h => cases h; exact ⟨_, _, rfl, rfl, hv⟩
    | i + 2, h => simp at h
  refine ⟨G, H, G, _, r0, ?_⟩
  rw [hm]
  exact fun H1 G1 g r y hy => k y H1 G1 g (s.run r) hy
end
end DL
end
section
set_option Elab.async false
set_option linter.all false
set_option maxRecDepth 100000
set_option maxHeartbeats 4000000
/-! Table.__init__, Table(book) -/
namespace DL
open PySem PySem.Spec PyProof.Rows L2
theorem has_tableD {C : Cf} {mo : Nat → List (List Int) → Option MSp} {L n : Int} {ws : List D} {t : D} (e : tableD mo L ws n = some t) : ∃ w S, wordsOf ws = some w ∧ mo 0 ([L] :: w) = some S ∧ t = .obj 50 [("letters", .int L), ("words", .tup ws), ("length", .int n), ("known", .memo 0 (ghD ([L] :: w)))] := by
  unfold tableD at e
  obtain ⟨w, e1, e2⟩ := Option.bind_eq_some_iff.mp e
  by_cases h : (mo 0 ([L] :: w)).isSome = true
  · rw [if_pos h] at e2
    obtain ⟨S, hS⟩ := Option.isSome_iff_exists.mp h
    cases e2
    exact ⟨w, S, e1, hS, rfl⟩
  · rw [if_neg h] at e2; cases e2
section
variable {P : Program} {w : World} {mg : Str → Option Value} {base : Heap} {C : Cf}
theorem init_run {Dn : Ends} {K : PySem.W.Frag} {P : Program} {w : World} {W : WX} {mo : Nat → List (List Int) → Option MSp} {FL : Fn} {m1 m2 m3 : M D} (hK : K = C.K) (hP : P = C.P) (hw : w = C.w) (hmo : C.mo = mo)
    (c : Cls C.K (C.xa 50)) (nL : NoAttr C.K (C.xa 50) "letters") (nW : NoAttr C.K (C.xa 50) "words") (nN : NoAttr C.K (C.xa 50) "length") (nK : NoAttr C.K (C.xa 50) "known")
    (a1 : ∀ (o d : D) (L : D), ixF d (.int 0) = some L → m1 [DL.Slot.val o, .val d] = .ok L [DL.Slot.val o, .val d])
    (a2 : ∀ (o d : D) (L : D), ixF d (.int 1) = some L → m2 [DL.Slot.val o, .val d] = .ok L [DL.Slot.val o, .val d])
    (a3 : ∀ (o d : D) (L : D), FL [d] = .ok L → m3 [DL.Slot.val o, .val d] = .ok L [DL.Slot.val o, .val d])
    {vs : List V} {σ : L2.St} {H : Hp} {Q : VK} {E : XK} (hσ : σ = vs.map some) (h : spInit C mo FL vs H Q E) (hn : ∀ σ' H', Q .non H' → Dn.nx σ' H') :
    sFld K (tVar 0) (tD C W m1) "letters" { Dn with nx := sFld K (tVar 0) (tD C W m2) "words" { Dn with nx := sFld K (tVar 0) (tD C W m3) "length" { Dn with nx := sFld K (tVar 0) (tNewX P w) "known" Dn } } } σ H := by
  subst hK hP hw hmo
  obtain ⟨p, v, d, G, L, ws, n, t, rfl, s0, hv, i0, i1, il, ht, q⟩ := h
  obtain ⟨wl, S, e1, e2, rfl⟩ := has_tableD (C := C) ht
  have e1' : ws = wl.map fun w => D.tup (w.map D.int) := by
    clear ht q e2 i1
    induction ws generalizing wl with
    | nil => cases e1; rfl
    | cons x xs ih =>
      cases x with
      | tup z =>
        unfold wordsOf at e1
        obtain ⟨a, h1, h2⟩ := Option.bind_eq_some_iff.mp e1
        obtain ⟨b, h3, rfl⟩ := Option.map_eq_some_iff.mp h2
        rw [intsOf_eq h1, ih _ h3]
        rfl
      | _ => cases e1
  subst hσ
  refine is_val s0 rfl hv (a1 _ _ _ i0) fun y1 H1 G1 g1 s1 h1 => ?_
  have h1 := h1.int_inv
  subst h1
  obtain ⟨dx1, p1⟩ := s1.hp
  refine ⟨.ref p, rfl, p, _, dx1, _, rfl, p1, c, nL, by decide, ?_⟩
  refine is_val (s1.put (dx := dx1)) rfl (hv.mono g1) (a2 _ _ _ i1) fun y2 H2 G2 g2 s2 h2 => ?_
  obtain ⟨dx2, p2⟩ := s2.hp
  refine ⟨.ref p, rfl, p, _, dx2, _, rfl, p2, c, nW, (by show 1 < 1000; decide), ?_⟩
  refine is_val (s2.put (dx := dx2)) rfl ((hv.mono g1).mono g2) (a3 _ _ _ il) fun y3 H3 G3 g3 s3 h3 => ?_
  have h3 := h3.int_inv
  subst h3
  obtain ⟨dx3, p3⟩ := s3.hp
  have kw : ¬ (("letters" : Str) = "words") := by decide +kernel
  refine ⟨.ref p, rfl, p, _, dx3, _, rfl, p3, c, nN, ?_, ?_⟩
  · have := length_putF "words" y2 (putF "letters" (.int L) [])
    have h' : (putF "letters" (V.int L) []).length = 1 := rfl
    omega
  intro q4 n4
  have s4 := (s3.put (dx := dx3) (gs := putF "length" (.int n) (putF "words" y2 (putF "letters" (.int L) [])))).ext (Ext.memo (s3.put (dx := dx3)).gh n4 e2)
  obtain ⟨dx4, p4⟩ := s4.hp
  refine ⟨.ref p, rfl, p, _, dx4, _, rfl, p4, c, nK, ?_, ?_⟩
  · have := length_putF "length" (V.int n) (putF "words" y2 (putF "letters" (.int L) []))
    have := length_putF "words" y2 (putF "letters" (.int L) [])
    have h' : (putF "letters" (V.int L) []).length = 1 := rfl
    omega
  refine hn _ _ (q _ _ _ (s4.put (dx := dx4)) fun dx => ?_)
  refine .obj upd_same ?_
  rw [flds4]
  have gA : Grow C G2 (upd (upd G3 q4 (tagO 0 ([L] :: wl))) p (.ins (C.xa 50) dx [("letters", V.int L), ("words", y2), ("length", V.int n), ("known", V.ref q4)])) := (g3.trans (.new ((s3.put (dx := dx3) (gs := putF "length" (.int n) (putF "words" y2 (putF "letters" (.int L) [])))).gh.free n4))).trans (.new s4.gp)
  refine .cons (.int L) (.cons (h2.mono gA) (.cons (.int n) (.cons (.memo (.inr ⟨by decide, _, rfl, ?_⟩)) .nil)))
  rw [upd_ne (fun z => by rw [z] at n4; rw [upd_same] at n4; cases n4), upd_same]
theorem ok_Init {K : PySem.W.Frag} {st : Stmt} {f : Addr} {fd : FuncData} {mo : Nat → List (List Int) → Option MSp} {FL : Fn} {k : Nat} (F : Fun K "__init__" "Table.__init__" st f fd) (S : FnScope ["self", "book"] ["self", "book"] (defScope st)) (hK : K = C.K) (hP : P = C.P) (hw : w = C.w) (hmo : C.mo = mo)
    (c : Cls C.K (C.xa 50)) (nL : NoAttr C.K (C.xa 50) "letters") (nW : NoAttr C.K (C.xa 50) "words") (nN : NoAttr C.K (C.xa 50) "length") (nK : NoAttr C.K (C.xa 50) "known")
    (hbody : ∀ (cdv : Value) (A : Around) (outer : List Env) (s : Shared) (H : Hp) (E : XK), Room k (A.deeper (envOfC "Table.__init__" (defScope st) s.heap.objs.size f cdv)) → Takes (cxOf (L2.CX P w) P w K mg base ["self", "book"] "Table.__init__" (defScope st) f cdv A outer s H E) (fun cls d _ H => E cls d H) →
      ∃ m1 m2 m3 : M D, (∀ (o d : D) (L : D), ixF d (.int 0) = some L → m1 [DL.Slot.val o, .val d] = .ok L [DL.Slot.val o, .val d]) ∧ (∀ (o d : D) (L : D), ixF d (.int 1) = some L → m2 [DL.Slot.val o, .val d] = .ok L [DL.Slot.val o, .val d]) ∧
        (∀ (o d : D) (L : D), FL [d] = .ok L → m3 [DL.Slot.val o, .val d] = .ok L [DL.Slot.val o, .val d]) ∧
      PSs (cxOf (L2.CX P w) P w K mg base ["self", "book"] "Table.__init__" (defScope st) f cdv A outer s H E) (defBody st) (fun Dn => sFld K (tVar 0) (tD C (fun cls d _ H => E cls d H) m1) "letters" { Dn with nx := sFld K (tVar 0) (tD C (fun cls d _ H => E cls d H) m2) "words" { Dn with nx := sFld K (tVar 0) (tD C (fun cls d _ H => E cls d H) m3) "length" { Dn with nx := sFld K (tVar 0) (tNewX P w) "known" Dn } } })) :
    FnOk P w K mg base (L2.CX P w) (k + 1) f fd ["self", "book"] (spInit C mo FL) := by
  refine F.okX S (fun vs H Q E h => ?_) (fun cdv A outer s H vs Q E hr h => ?_)
  · obtain ⟨p, v, d, G, L, ws, n, t, rfl, _⟩ := h
    rfl
  · obtain ⟨m1, m2, m3, a1, a2, a3, hb⟩ := hbody cdv A outer s H E hr (takes_of rfl rfl rfl rfl)
    refine ⟨_, hb, ?_⟩
    refine init_run (FL := FL) (E := E) hK hP hw hmo c nL nW nN nK a1 a2 a3 (vs := vs) ?_ h (fun σ' H' z => z)
    obtain ⟨p, v, d, G, L, ws, n, t, rfl, _⟩ := h
    rfl
end
/-- Table(book) -/
def tableF (mo : Nat → List (List Int) → Option MSp) (FL : Fn) : List D → Option D
  | [d] => (match ixF d (.int 0), ixF d (.int 1), FL [d] with
    | some (.int L), some (.tup ws), .ok (.int n) => tableD mo L ws n
    | _, _, _ => none)
  | _ => none
theorem tableF_some {mo : Nat → List (List Int) → Option MSp} {FL : Fn} {ds : List D} {t : D} (h : tableF mo FL ds = some t) : ∃ d L ws n, ds = [d] ∧ ixF d (.int 0) = some (.int L) ∧ ixF d (.int 1) = some (.tup ws) ∧ FL [d] = .ok (.int n) ∧ tableD mo L ws n = some t := by
  unfold tableF at h
  split at h
  · split at h
    · exact ⟨_, _, _, _, rfl, by assumption, by assumption, by assumption, h⟩
    · cases h
  · cases h
structure DTab (P : Program) (w : World) (K : PySem.W.Frag) (mg : Str → Option Value) (base : Heap) (C : Cf) (mo : Nat → List (List Int) → Option MSp) (FL : Fn) (k : Nat) : Prop where
  ex : ∃ f fd, Mk K (C.xa 50) f ∧ mg "Table" = some (.ref (C.xa 50)) ∧ Binds K fd ["self", "book"] [] ∧ FnOk P w K mg base (L2.CX P w) k f fd ["self", "book"] (spInit C mo FL)
section
variable {X : Cx} {C : Cf} {W : WX} {pos p : Pos}
theorem d_table {mo : Nat → List (List Int) → Option MSp} {FL : Fn} {e : Expr} {m : M (List D)} {k : Nat} (T : DTab X.prog X.w X.K X.mg X.base C mo FL k) (hr : Room (k + 1) X.A) (hx : Passes (L2.CX X.prog X.w) X (fun _ _ _ => False)) (ha : DA X C W [e] m) (hg : Gl X "Table" := by rfl)
    (he : starEach [e] X.env = (false, eval e X.env) :: starEach [] X.env := by rfl) (hpl : (backTo pos (starEach [] X.env)).any (·.1) = false := by rfl) :
    DE X C W (.Call (.Name "Table" p) [e] [] pos) (eN (tableF mo FL) m) := by
  obtain ⟨f, fd, M, hm, hb, F⟩ := T.ex
  refine ⟨PE.weak (pe_make M F hr hg hm hb .nil hx ha.pa (by decide) he hpl) fun σ H Q ⟨G, q⟩ => ⟨G, run_imp (run_bind q) fun _ _ H1 G1 ds g1 q1 vs hvs => ?_⟩⟩
  obtain ⟨t, e1, B, G0, a, r, q2⟩ := run_lft q1
  obtain ⟨d, L, ws, n, rfl, i0, i1, il, ht⟩ := tableF_some e1
  obtain ⟨v, rfl, hv⟩ := hvs.one
  intro x dx nx ndx nex
  have sub : ∀ b o, H1 b = some o → upd (upd H1 dx (.own x)) x (.ins (C.xa 50) dx []) b = some o := fun b o e => by
    rw [upd_ne (ne_of_none e nx), upd_ne (ne_of_none e ndx)]; exact e
  have gx : G1 x = none := r.gh.free nx
  have gh' : Sub C G1 (upd (upd H1 dx (.own x)) x (.ins (C.xa 50) dx [])) := r.gh.keep fun q y _ e => sub q y e
  refine ⟨x, v, d, G1, L, ws, n, t, rfl, ⟨.refl, gh', ⟨fun b o e _ => ?_, fun b e => ?_, fun b k d' m => ?_⟩, fun _ _ _ _ _ h => h, ⟨dx, upd_same⟩, gx⟩, hv, i0, i1, il, ht, fun H' G' fs s hh => ⟨rfl, ?_⟩⟩
  · have z : b ≠ x := fun z => by subst z; rw [delP_self] at e; cases e
    rw [delP_ne z] at e; exact e
  · have z : b ≠ x := fun z => by subst z; rw [delP_self] at e; exact e rfl
    rw [delP_ne z] at e; exact e
  · rcases m with m | ⟨h1, gl, h2, h3⟩
    · exact .inl m
    · have z : b ≠ x := fun z => by subst z; rw [delP_self] at h3; cases h3
      rw [delP_ne z] at h3
      exact .inr ⟨h1, gl, h2, h3⟩
  · obtain ⟨dx', hp⟩ := s.hp
    have hd : Grow C H1 (delP (upd (upd H1 dx (.own x)) x (.ins (C.xa 50) dx [])) x) := ⟨fun b o e _ => by rw [delP_ne (ne_of_none e nx)]; exact sub b o e, fun b e => by
      have z : b ≠ x := fun z => e (by rw [z]; exact nx)
      rw [delP_ne z]
      cases h : H1 b with
      | none => exact absurd h e
      | some o => rw [sub b o h]; exact (fun z => nomatch z), fun b k d' m => by
      rcases m with m | ⟨h1, gl, h2, h3⟩
      · exact .inl m
      · exact .inr ⟨h1, gl, h2, by rw [delP_ne (ne_of_none h3 nx)]; exact sub _ _ h3⟩⟩
    have ex : Ext C G1 H1 (upd G' x (.ins (C.xa 50) dx' fs)) H' := ⟨s.gg.trans (.new s.gp), s.gh.add s.gp hp rfl fun _ _ _ e => e, hd.trans s.hh, fun b o h1 hk h2 => by
      have z : b ≠ x := fun z => by rw [z, nx] at h1; cases h1
      rw [upd_ne z]
      exact s.new b o (sub b o h1) hk z h2⟩
    exact q2 _ _ ex.gg (r.ext ex) _ (hh dx')
end
end DL
end
section
set_option Elab.async false
set_option linter.all false
set_option maxRecDepth 100000
set_option maxHeartbeats 4000000
/-! the kinds of memos -/
namespace DL
open PySem PySem.Spec PyProof.Rows L2
theorem nodup_lt : ∀ (N : Nat) (l : List Nat), l.Nodup → (∀ x ∈ l, x < N) → l.length ≤ N
  | 0, l, _, h => by
    cases l with
    | nil => exact Nat.le_refl _
    | cons x r => exact absurd (h x List.mem_cons_self) (by omega)
  | N + 1, l, hn, h => by
    have ih := nodup_lt N (l.erase N) (hn.erase N) fun x hx => by
      have h1 := h x (List.mem_of_mem_erase hx)
      have h2 : x ≠ N := fun z => by subst z; exact (List.Nodup.mem_erase_iff hn).mp hx |>.1 rfl
      omega
    have h3 : l.length - 1 ≤ (l.erase N).length := by
      by_cases hm : N ∈ l
      · rw [List.length_erase_of_mem hm]; exact Nat.le_refl _
      · rw [List.erase_of_not_mem hm]; omega
    omega
theorem cap_code {α : Type} (code : α → Nat) (N : Nat) (ok : α → Prop) (hlt : ∀ k, ok k → code k < N) (hinj : ∀ k k', ok k → ok k' → code k = code k' → k = k') (l : List α) (hn : l.Nodup) (hl : ∀ k ∈ l, ok k) : l.length ≤ N := by
  have h1 : (l.map code).Nodup := by
    induction l with
    | nil => exact List.nodup_nil
    | cons x r ih =>
      rw [List.nodup_cons] at hn
      rw [List.map_cons, List.nodup_cons]
      refine ⟨fun hm => ?_, ih hn.2 fun k hk => hl k (List.mem_cons_of_mem _ hk)⟩
      obtain ⟨y, hy, e⟩ := List.mem_map.mp hm
      have := hinj y x (hl y (List.mem_cons_of_mem _ hy)) (hl x List.mem_cons_self) e
      rw [this] at hy
      exact hn.1 hy
  have := nodup_lt N (l.map code) h1 fun x hx => by
    obtain ⟨y, hy, rfl⟩ := List.mem_map.mp hx
    exact hlt y (hl y hy)
  rwa [List.length_map] at this
def numsK : List NestedKey → Option (List Int)
  | [] => some []
  | .num i :: r => (numsK r).map (i :: ·)
  | _ => none
theorem numsK_eq : ∀ {ks : List NestedKey} {ns : List Int}, numsK ks = some ns → ks = ns.map NestedKey.num
  | [], _, h => by cases h; rfl
  | k :: r, ns, h => by
    cases k with
    | num i =>
      unfold numsK at h
      obtain ⟨ms, e, rfl⟩ := Option.map_eq_some_iff.mp h
      rw [List.map_cons, numsK_eq e]
    | _ => cases h
@[simp] theorem numsK_map : ∀ ns : List Int, numsK (ns.map NestedKey.num) = some ns
  | [] => rfl
  | n :: ns => by rw [List.map_cons]; unfold numsK; rw [numsK_map ns]; rfl
@[simp] theorem keysD_map : ∀ ns : List Int, keysD (ns.map D.int) = some (ns.map NestedKey.num)
  | [] => rfl
  | n :: ns => by rw [List.map_cons, List.map_cons]; unfold keysD keyD; rw [keysD_map ns]; rfl
theorem depth_nums : ∀ ns : List Int, NestedKey.depthAll (ns.map NestedKey.num) = 0
  | [] => by unfold List.map NestedKey.depthAll; rfl
  | n :: ns => by rw [List.map_cons]; unfold NestedKey.depthAll NestedKey.depth; rw [depth_nums ns]; rfl
/-- digits -/
def enc (b : Nat) : List Int → Nat
  | [] => 0
  | x :: xs => x.toNat + b * enc b xs
theorem enc_lt {b : Nat} (hb : 0 < b) : ∀ {xs : List Int} {n : Nat}, xs.length ≤ n → (∀ x ∈ xs, 0 ≤ x ∧ x < (b : Int)) → enc b xs < b ^ n
  | [], n, _, _ => Nat.pow_pos hb
  | x :: xs, 0, h, _ => by simp at h
  | x :: xs, n + 1, h, hx => by
    have ih := enc_lt hb (xs := xs) (n := n) (by simpa using h) fun y hy => hx y (List.mem_cons_of_mem _ hy)
    have h0 := hx x List.mem_cons_self
    unfold enc
    rw [Nat.pow_succ, Nat.mul_comm (b ^ n) b]
    have : b * enc b xs + b ≤ b * b ^ n := by
      rw [← Nat.mul_succ]
      exact Nat.mul_le_mul_left _ ih
    omega
theorem enc_inj {b : Nat} (hb : 0 < b) : ∀ {xs ys : List Int}, xs.length = ys.length → (∀ x ∈ xs, 0 ≤ x ∧ x < (b : Int)) → (∀ x ∈ ys, 0 ≤ x ∧ x < (b : Int)) → enc b xs = enc b ys → xs = ys
  | [], [], _, _, _, _ => rfl
  | [], _ :: _, h, _, _, _ => by simp at h
  | _ :: _, [], h, _, _, _ => by simp at h
  | x :: xs, y :: ys, h, hx, hy, e => by
    have h1 := hx x List.mem_cons_self
    have h2 := hy y List.mem_cons_self
    unfold enc at e
    have e1 : (x.toNat + b * enc b xs) % b = (y.toNat + b * enc b ys) % b := by rw [e]
    rw [Nat.add_mul_mod_self_left, Nat.add_mul_mod_self_left, Nat.mod_eq_of_lt (by omega), Nat.mod_eq_of_lt (by omega)] at e1
    have e2 : b * enc b xs = b * enc b ys := by omega
    have e3 := Nat.eq_of_mul_eq_mul_left hb e2
    rw [enc_inj hb (by simpa using h) (fun z hz => hx z (List.mem_cons_of_mem _ hz)) (fun z hz => hy z (List.mem_cons_of_mem _ hz)) e3, show x = y by omega]
/-! ### Table -/
def gdL (w : List Int) (k : Nat) : Int := w[k]?.getD 0
/-- what is left behind a letter -/
def laterL (ws : List (List Int)) (place : Nat) (left : List Int) (l : Int) : List Int := List.zipWith (fun m w => m - if gdL w place = l then 0 else 1) left ws
def neg (xs : List Int) : Bool := xs.any fun x => decide (x < 0)
/-- how many words, and the least sum; r places are left -/
def lookL (L : Nat) (ws : List (List Int)) (n : Nat) : Nat → List Int → Int × Int
  | 0, _ => (1, 0)
  | r + 1, left =>
    let os := ((List.range L).map fun (l : Nat) => laterL ws (n - (r + 1)) left (l : Int)).filter fun more => !neg more
    ((os.map fun more => (lookL L ws n r more).1).sum, minL (((os.filter fun more => decide (0 < (lookL L ws n r more).1)).map fun more => (lookL L ws n r more).2 + left.sum - more.sum) ++ [1000000]))
structure TB (L : Nat) (ws : List (List Int)) (n : Nat) : Prop where
  l3 : L ≤ 3
  n6 : n ≤ 6
  w1 : 1 ≤ ws.length
  w5 : ws.length ≤ 5
  len : ∀ w ∈ ws, w.length = n
def lok (ws : List (List Int)) (left : List Int) : Bool := left.length == ws.length && left.all fun x => decide (0 ≤ x ∧ x < 17)
def tabSp (L : Nat) (ws : List (List Int)) (n : Nat) : NestedKey → Option D
  | .tup [.num p, .tup ks] => (numsK ks).bind fun left => if (lok ws left && decide (0 ≤ p ∧ p ≤ (n : Int))) = true then some (.tup [.int (lookL L ws n (n - p.toNat) left).1, .int (lookL L ws n (n - p.toNat) left).2]) else none
  | _ => none
theorem tabSp_some {L : Nat} {ws : List (List Int)} {n : Nat} {k : NestedKey} (h : (tabSp L ws n k).isSome = true) : ∃ (p : Nat) (left : List Int), k = .tup [.num p, .tup (left.map .num)] ∧ p ≤ n ∧ left.length = ws.length ∧ ∀ x ∈ left, 0 ≤ x ∧ x < ((17 : Nat) : Int) := by
  unfold tabSp at h
  split at h
  · rename_i p ks
    cases e : numsK ks with
    | none => rw [e] at h; cases h
    | some left =>
      rw [e] at h
      simp only [Option.bind_some] at h
      split at h
      · rename_i c
        simp only [lok, Bool.and_eq_true, beq_iff_eq, List.all_eq_true, decide_eq_true_eq] at c
        refine ⟨p.toNat, left, ?_, by omega, c.1.1, c.1.2⟩
        rw [numsK_eq e, Int.toNat_of_nonneg c.2.1]
      · cases h
  · cases h
def tabM (L : Nat) (ws : List (List Int)) (n : Nat) (h : TB L ws n) : MSp where
  sp := tabSp L ws n
  cap := fun l hn hl => by
    have key := cap_code (fun k : NestedKey => match k with
      | .tup [.num p, .tup ks] => p.toNat * 17 ^ 5 + enc 17 ((numsK ks).getD [])
      | _ => 0) (7 * 17 ^ 5) (fun k => (tabSp L ws n k).isSome = true) (fun k hk => ?_) (fun k k' hk hk' e => ?_) l hn hl
    · exact Nat.le_trans key (by decide)
    · obtain ⟨p, left, rfl, h1, h2, h3⟩ := tabSp_some hk
      have h4 := enc_lt (b := 17) (by decide) (xs := left) (n := 5) (by rw [h2]; exact h.w5) h3
      have := h.n6
      show ((p : Int).toNat) * 17 ^ 5 + enc 17 ((numsK (left.map .num)).getD []) < _
      rw [numsK_map, Option.getD_some]
      have : (p : Int).toNat ≤ 6 := by omega
      omega
    · obtain ⟨p, left, rfl, h1, h2, h3⟩ := tabSp_some hk
      obtain ⟨p', left', rfl, h1', h2', h3'⟩ := tabSp_some hk'
      have e : ((p : Int).toNat) * 17 ^ 5 + enc 17 ((numsK (left.map .num)).getD []) = ((p' : Int).toNat) * 17 ^ 5 + enc 17 ((numsK (left'.map .num)).getD []) := e
      rw [numsK_map, numsK_map, Option.getD_some, Option.getD_some] at e
      have h4 := enc_lt (b := 17) (by decide) (xs := left) (n := 5) (by rw [h2]; exact h.w5) h3
      have h5 := enc_lt (b := 17) (by decide) (xs := left') (n := 5) (by rw [h2']; exact h.w5) h3'
      have ep : p = p' := by omega
      subst ep
      rw [enc_inj (b := 17) (by decide) (by rw [h2, h2']) h3 h3' (by omega)]
  dep := fun k hk => by
    obtain ⟨p, left, rfl, _⟩ := tabSp_some hk
    unfold NestedKey.depth NestedKey.depthAll NestedKey.depth NestedKey.depthAll NestedKey.depthAll
    unfold NestedKey.depth
    rw [depth_nums]
    decide
/-! ### steps -/
def edL : List Int → List Int → Int
  | [], w => w.length
  | u, [] => u.length
  | x :: u, y :: w => min (min (edL u w + if x = y then 0 else 1) (1 + edL u (y :: w))) (1 + edL (x :: u) w)
termination_by u w => u.length + w.length
def suf (u x : List Int) : Bool := u.length ≤ x.length && x.drop (x.length - u.length) == u
def pairSp (ok : List Int → List Int → Bool) : NestedKey → Option D
  | .tup [.tup ks, .tup js] => (numsK ks).bind fun u => (numsK js).bind fun w => if ok u w = true then some (.int (edL u w)) else none
  | _ => none
theorem pairSp_some {ok : List Int → List Int → Bool} {k : NestedKey} (h : (pairSp ok k).isSome = true) : ∃ u w : List Int, k = .tup [.tup (u.map .num), .tup (w.map .num)] ∧ ok u w = true := by
  unfold pairSp at h
  split at h
  · rename_i ks js
    cases e : numsK ks with
    | none => rw [e] at h; cases h
    | some u =>
      rw [e] at h
      cases e' : numsK js with
      | none => rw [e'] at h; cases h
      | some w =>
        rw [e'] at h
        simp only [Option.bind_some] at h
        split at h
        · exact ⟨u, w, by rw [numsK_eq e, numsK_eq e'], by assumption⟩
        · cases h
  · cases h
theorem pair_depth (u w : List Int) : (NestedKey.tup [.tup (u.map .num), .tup (w.map .num)]).depth ≤ 8 := by
  simp only [NestedKey.depth, NestedKey.depthAll, depth_nums]
  decide
def pairM (ok : List Int → List Int → Bool) (code : List Int → List Int → Nat) (hlt : ∀ u w, ok u w = true → code u w < 16000000) (hinj : ∀ u w u' w', ok u w = true → ok u' w' = true → code u w = code u' w' → u = u' ∧ w = w') : MSp where
  sp := pairSp ok
  cap := fun l hn hl => cap_code (fun k : NestedKey => match k with
      | .tup [.tup ks, .tup js] => code ((numsK ks).getD []) ((numsK js).getD [])
      | _ => 0) 16000000 (fun k => (pairSp ok k).isSome = true) (fun k hk => by
      obtain ⟨u, w, rfl, h1⟩ := pairSp_some hk
      show code ((numsK (u.map .num)).getD []) ((numsK (w.map .num)).getD []) < _
      rw [numsK_map, numsK_map]
      exact hlt u w h1) (fun k k' hk hk' e => by
      obtain ⟨u, w, rfl, h1⟩ := pairSp_some hk
      obtain ⟨u', w', rfl, h1'⟩ := pairSp_some hk'
      have e : code ((numsK (u.map .num)).getD []) ((numsK (w.map .num)).getD []) = code ((numsK (u'.map .num)).getD []) ((numsK (w'.map .num)).getD []) := e
      rw [numsK_map, numsK_map, numsK_map, numsK_map] at e
      obtain ⟨rfl, rfl⟩ := hinj u w u' w' h1 h1' e
      rfl) l hn hl
  dep := fun k hk => by
    obtain ⟨u, w, rfl, _⟩ := pairSp_some hk
    exact pair_depth u w
theorem suf_inj {u v x : List Int} (h1 : suf u x = true) (h2 : suf v x = true) (e : u.length = v.length) : u = v := by
  unfold suf at h1 h2
  simp only [Bool.and_eq_true, beq_iff_eq] at h1 h2
  rw [← h1.2, ← h2.2, e]
def sufM (x y : List Int) (hx : x.length ≤ 999) (hy : y.length ≤ 999) : MSp := pairM (fun u w => suf u x && suf w y) (fun u w => u.length * 1000 + w.length) (fun u w h => by
    simp only [suf, Bool.and_eq_true, decide_eq_true_eq] at h
    omega) (fun u w u' w' h h' e => by
    simp only [Bool.and_eq_true] at h h'
    have a1 := h.1; have a2 := h.2; have a3 := h'.1; have a4 := h'.2
    unfold suf at a1 a2 a3 a4
    simp only [Bool.and_eq_true, decide_eq_true_eq] at a1 a2 a3 a4
    exact ⟨suf_inj h.1 h'.1 (by omega), suf_inj h.2 h'.2 (by omega)⟩)
/-- words of at most n letters below 3, with their length told: digits 1 to 3 -/
def wok (n : Nat) (u : List Int) : Bool := u.length ≤ n && u.all fun x => decide (0 ≤ x ∧ x < 3)
def encW : List Int → Nat
  | [] => 0
  | x :: xs => x.toNat + 1 + 3 * encW xs
def bW : Nat → Nat
  | 0 => 1
  | n + 1 => 3 * bW n + 1
theorem encW_lt : ∀ {u : List Int} {n : Nat}, wok n u = true → encW u < bW n
  | [], 0, _ => by decide
  | [], n + 1, _ => by unfold bW encW; omega
  | x :: u, 0, h => by simp [wok] at h
  | x :: u, n + 1, h => by
    have h' := h
    simp only [wok, Bool.and_eq_true, decide_eq_true_eq, List.all_cons, List.length_cons] at h
    have ih := encW_lt (u := u) (n := n) (by simp only [wok, Bool.and_eq_true, decide_eq_true_eq]; exact ⟨by omega, h.2.2⟩)
    unfold bW encW
    omega
theorem encW_inj : ∀ {u v : List Int}, (∀ x ∈ u, 0 ≤ x ∧ x < 3) → (∀ x ∈ v, 0 ≤ x ∧ x < 3) → encW u = encW v → u = v
  | [], [], _, _, _ => rfl
  | [], y :: v, _, _, e => by unfold encW at e; omega
  | x :: u, [], _, _, e => by unfold encW at e; omega
  | x :: u, y :: v, h, h', e => by
    have h1 := h x List.mem_cons_self
    have h2 := h' y List.mem_cons_self
    unfold encW at e
    rw [encW_inj (fun z hz => h z (List.mem_cons_of_mem _ hz)) (fun z hz => h' z (List.mem_cons_of_mem _ hz)) (by omega), show x = y by omega]
theorem wok_all {n : Nat} {u : List Int} (h : wok n u = true) : ∀ x ∈ u, 0 ≤ x ∧ x < 3 := by
  simp only [wok, Bool.and_eq_true, List.all_eq_true, decide_eq_true_eq] at h
  exact h.2
def allM : MSp := pairM (fun u w => wok 8 u && wok 4 w) (fun u w => encW u * 200 + encW w) (fun u w h => by
    simp only [Bool.and_eq_true] at h
    have h1 := encW_lt h.1
    have h2 := encW_lt h.2
    have e1 : bW 8 = 9841 := by decide
    have e2 : bW 4 = 121 := by decide
    omega) (fun u w u' w' h h' e => by
    simp only [Bool.and_eq_true] at h h'
    have h2 := encW_lt h.2
    have h3 := encW_lt h'.2
    have e2 : bW 4 = 121 := by decide
    rw [e2] at h2 h3
    exact ⟨encW_inj (wok_all h.1) (wok_all h'.1) (by omega), encW_inj (wok_all h.2) (wok_all h'.2) (by omega)⟩)
open Classical in
noncomputable def memoOf : Nat → List (List Int) → Option MSp
  | 0, [L] :: ws => if h : 0 ≤ L ∧ TB L.toNat ws ((ws.headD []).length) then some (tabM L.toNat ws _ h.2) else none
  | 1, [x, y] => if h : x.length ≤ 999 ∧ y.length ≤ 999 then some (sufM x y h.1 h.2) else none
  | 2, [] => some allM
  | _, _ => none
end DL
end
section
set_option Elab.async false
set_option linter.all false
set_option maxRecDepth 100000
set_option maxHeartbeats 4000000
/-! recursion by levels -/
namespace DL
open PySem PySem.Spec PyProof.Rows L2
/-- the ints of two slots -/
def intsD : D → Option (List Int)
  | .tup ds => intsOf ds
  | _ => none
def gh2 (i j : Nat) (a : AS) : Option (List (List Int)) := (mdN i a).bind fun d => (intsD d).bind fun x => (mdN j a).bind fun e => (intsD e).map fun y => [x, y]
def gh0 (_ : AS) : Option (List (List Int)) := some []
def tower (f : Fn → Fn) : Nat → Fn
  | 0 => fun _ => .bad
  | n + 1 => f (tower f n)
section
variable {P : Program} {w : World} {K : PySem.W.Frag} {mg : Str → Option Value} {base : Heap} {C : Cf}
theorem fn_bad {CX : CXT} {k : Nat} {f : Addr} {fd : FuncData} {ps : List Str} : FnOk P w K mg base CX k f fd ps (spD C fun _ => .bad) :=
  ⟨fun vs H Q E ⟨_, _, _, _, h⟩ => h.elim, fun _ _ _ _ _ _ _ _ _ _ _ _ _ ⟨_, _, _, _, h⟩ => h.elim⟩
theorem Dfn.tower {x : Str} {ps : List Str} {f : Addr} {fd : FuncData} {b : Nat} {step : Fn → Fn} (h1 : mg x = some (.ref f)) (h2 : PySem.W.keepIn K (.ref f) = true) (h3 : Binds K fd ps [])
    (h : ∀ j L, b ≤ j → Dfn P w K mg base C x ps j L → FnOk P w K mg base (L2.CX P w) (j + 1) f fd ps (spD C (step L))) : ∀ n, Dfn P w K mg base C x ps (b + n) (tower step n)
  | 0 => ⟨f, fd, h1, h2, h3, fn_bad⟩
  | n + 1 => ⟨f, fd, h1, h2, h3, h (b + n) _ (Nat.le_add_right _ _) (Dfn.tower h1 h2 h3 h n)⟩
theorem DMt.tower2 {m m' : Str} {ps ps' : List Str} {f f' : Addr} {fd fd' : FuncData} {b : Nat} {s1 s2 : Fn → Fn} (h1 : Meth K (C.xa 50) m f) (h3 : Binds K fd ps []) (h1' : Meth K (C.xa 50) m' f') (h3' : Binds K fd' ps' [])
    (h : ∀ j L, b ≤ j → DMt P w K mg base C m ps j L → FnOk P w K mg base (L2.CX P w) (j + 1) f' fd' ps' (spD C (s1 L)))
    (h' : ∀ j L, b ≤ j → DMt P w K mg base C m' ps' j L → FnOk P w K mg base (L2.CX P w) (j + 1) f fd ps (spD C (s2 L))) : ∀ n, DMt P w K mg base C m ps (b + 2 * n) (tower (fun L => s2 (s1 L)) n)
  | 0 => ⟨f, fd, h1, h3, fn_bad⟩
  | n + 1 => ⟨f, fd, h1, h3, h' (b + 2 * n + 1) _ (by omega) ⟨f', fd', h1', h3', h (b + 2 * n) _ (by omega) (DMt.tower2 h1 h3 h1' h3' h h' n)⟩⟩
end
section
variable {X : Cx} {C : Cf} {W : WX}
theorem passNone : Passes (L2.CX X.prog X.w) X (fun _ _ _ => False) := fun _ _ _ _ _ _ _ ⟨_, _, _, _, _, _, _, _, _, _, _, _, hE⟩ => hE.elim
theorem d_memoM {mo : Nat → List (List Int) → Option MSp} {i j : Nat} {md : AS → Option D} {m : MS} {mv : M D} {sts : List Stmt} (hmo : C.mo = mo) (h : DSs X C W sts (sMemo C.mo i j md m mv)) : DSs X C W sts (sMemo mo i j md m mv) := hmo ▸ h
end
section
variable {C : Cf} {H : Hp}
def plainH (H : Hp) : Hp := fun p => match H p with
  | some o => if isTag o = true then none else some o
  | none => none
theorem plain_at {p : Addr} {o : HO} (h : H p = some o) (t : isTag o = false) : plainH H p = some o := by
  unfold plainH
  rw [h]
  simp [t]
theorem plain_of {p : Addr} {o : HO} (h : plainH H p = some o) : H p = some o ∧ isTag o = false := by
  unfold plainH at h
  cases e : H p with
  | none => rw [e] at h; cases h
  | some x =>
    rw [e] at h
    cases t : isTag x with
    | true => simp [t] at h
    | false => simp [t] at h; subst h; exact ⟨rfl, t⟩
theorem plain_sub : Sub C (plainH H) H := ⟨fun p o e _ => (plain_of e).1, fun p o e t => by rw [(plain_of e).2] at t; cases t⟩
theorem plain_sqL {K : PySem.W.Frag} {a : Addr} {xs : List V} (h : SqL K H a xs) : SqL K (plainH H) a xs := by
  rcases h with (h | ⟨o, h⟩) | h
  · exact .inl (.inl (plain_at h rfl))
  · exact .inl (.inr ⟨o, plain_at h rfl⟩)
  · exact .inr h
theorem init_a1 (k : Int) (o d L : D) (h : ixF d (.int k) = some L) : e2 ixF (rd 1) (eC (.int k)) [DL.Slot.val o, .val d] = .ok L [DL.Slot.val o, .val d] := by
  simp [e2, M.bind, rd, eC, M.pure, lft, h]
theorem init_a3 (F : Fn) (o d L : D) (h : F [d] = .ok L) : eCall F (aCons (rd 1) aNil) [DL.Slot.val o, .val d] = .ok L [DL.Slot.val o, .val d] := by
  simp [eCall, aCons, aNil, M.bind, rd, M.pure, h]
end
section
variable {X : Cx} {C : Cf} {W : WX}
theorem pre_two {st st2 : Stmt} {m m2 : MS} (h : DS X C W st m) (h2 : DS X C W st2 m2) : ∀ (rest : List Stmt) (u : TS), PSs X rest u → PSs X ([st, st2] ++ rest) (fun Dn σ H => tS C W (sSeq m m2) { Dn with nx := fun σ' H' => u Dn σ' H' } σ H) := fun rest u hr =>
  PSs.weak (pss_cons h.ps (pss_cons h2.ps hr)) fun Dn σ H q => seq_ok q
end
end DL
end
section
set_option Elab.async false
set_option linter.all false
set_option maxRecDepth 100000
set_option maxHeartbeats 4000000
/-! tuples of ints: <=, > -/
namespace DL
open PySem PySem.Spec PyProof.Rows L2
theorem lt65 {n : Nat} (h : n + 65 < cLine) : n < cLine := by omega
def rGtT (K : PySem.W.Frag) : R2 := fun x y H Q => ∃ (a b : Addr) (ns ms : List Int), x = .ref a ∧ y = .ref b ∧ SqT K H a (ns.map V.int) ∧ SqT K H b (ms.map V.int) ∧
  Q (.bl (Ob.lexAt (fun j => decide (ns.getD j 0 = ms.getD j 0)) (fun j => decide (ms.getD j 0 < ns.getD j 0)) (decide (ns.length > ms.length)) 0 (min ns.length ms.length))) H
theorem op_gtT {X : Cx} (hu : X.A.units < cLine) : OpR X (compareOp .Gt) (rGtT X.K) := by
  intro pins s σ H x y v u Q I rx ry h
  obtain ⟨a, b, ns, ms, rfl, rfl, ha, hb, q⟩ := h
  cases rx
  cases ry
  obtain ⟨its, r1, p1, _⟩ := I.tuple ha
  obtain ⟨its2, r2, p2, _⟩ := I.tuple hb
  have i1 : IntsAre its ns := Vals.ints r1
  have i2 : IntsAre its2 ms := Vals.ints r2
  have e1 : its.toArray.size = ns.length := by rw [List.size_toArray]; exact i1.length
  have e2 : its2.toArray.size = ms.length := by rw [List.size_toArray]; exact i2.length
  have at1 : ∀ j (h1 : j < its.toArray.size), ∃ t, its.toArray[j] = .int (ns.getD j 0) t := fun j h1 => PyProof.Rows.IntsAre.int_at i1 _ _ (by simp at h1; simp [h1])
  have at2 : ∀ j (h1 : j < its2.toArray.size), ∃ t, its2.toArray[j] = .int (ms.getD j 0) t := fun j h1 => PyProof.Rows.IntsAre.int_at i2 _ _ (by simp at h1; simp [h1])
  have R := Ob.RcOp.tuples_gt (A := X.A) (s := s) (e := fun j => decide (ns.getD j 0 = ms.getD j 0)) (r := fun j => decide (ms.getD j 0 < ns.getD j 0)) p1 p2 hu (fun j h1 h2 => by
    obtain ⟨t, et⟩ := at1 j h1
    obtain ⟨t', et'⟩ := at2 j h2
    rw [et, et']
    have z : (ns.getD j 0 == ms.getD j 0) = decide (ns.getD j 0 = ms.getD j 0) := by
      by_cases q : ns.getD j 0 = ms.getD j 0
      · rw [decide_eq_true q]; exact beq_iff_eq.mpr q
      · rw [decide_eq_false q]; exact beq_eq_false_iff_ne.mpr q
    rw [← z]
    exact SeqAt.EqAt.int_int _ _ _ _) (fun j h1 h2 _ => by
    obtain ⟨t, et⟩ := at1 j h1
    obtain ⟨t', et'⟩ := at2 j h2
    rw [et, et']
    exact Ob.RcOp.gt_int _ _ _ _)
  rw [e1, e2] at R
  exact R X.prog X.w X.xe (EP X pins σ Q) ⟨.bl _, H, I, rfl, q⟩
/-- the order of tuples -/
def lexG (r : Int → Int → Bool) (z : Nat → Nat → Bool) (ns ms : List Int) : Bool := Ob.lexAt (fun j => decide (ns.getD j 0 = ms.getD j 0)) (fun j => r (ns.getD j 0) (ms.getD j 0)) (z ns.length ms.length) 0 (min ns.length ms.length)
def cmpT (r : Int → Int → Bool) (z : Nat → Nat → Bool) : D → D → Option D
  | .tup xs, .tup ys => (intsOf xs).bind fun ns => (intsOf ys).map fun ms => .bl (lexG r z ns ms)
  | _, _ => none
def leTF : D → D → Option D := cmpT (fun a b => decide (a ≤ b)) fun a b => decide (a ≤ b)
def gtTF : D → D → Option D := cmpT (fun a b => decide (b < a)) fun a b => decide (a > b)
section
variable {C : Cf}
theorem o_cmpT {r : Int → Int → Bool} {z : Nat → Nat → Bool} {R : R2} (h : ∀ (a b : Addr) (ns ms : List Int) (H : Hp) (Q : VK), SqT C.K H a (ns.map V.int) → SqT C.K H b (ms.map V.int) → Q (.bl (lexG r z ns ms)) H → R (.ref a) (.ref b) H Q) : Op2 C R (cmpT r z) := by
  intro W σ H G x y dx dy Q hx hy q
  obtain ⟨d, e, k, k2, g⟩ := op_done q
  unfold cmpT at e
  split at e
  · rename_i xs ys
    obtain ⟨ns, e1, e⟩ := Option.bind_eq_some_iff.mp e
    obtain ⟨ms, e2, rfl⟩ := Option.map_eq_some_iff.mp e
    have e1 := intsOf_eq e1
    have e2 := intsOf_eq e2
    subst e1 e2
    cases hx with
    | tup s1 r1 =>
      cases hy with
      | tup s2 r2 =>
        rw [HasAll.ints r1] at s1
        rw [HasAll.ints r2] at s2
        exact h _ _ ns ms H Q (g.sqT s1) (g.sqT s2) (k _ (.bl _))
  · cases e
theorem o_leT : Op2 C (rLeT C.K) leTF := o_cmpT fun a b ns ms H Q h1 h2 q => ⟨a, b, ns, ms, rfl, rfl, h1, h2, q⟩
theorem o_gtT : Op2 C (rGtT C.K) gtTF := o_cmpT fun a b ns ms H Q h1 h2 q => ⟨a, b, ns, ms, rfl, rfl, h1, h2, q⟩
end
end DL
end
section
/-! sorted of a list of numbers that stands in order already -/
set_option Elab.async false
set_option linter.all false
set_option maxRecDepth 100000
namespace DL
open PySem PySem.Spec PyProof.Rows L2
def sortF : List D → Option D
  | [.lst xs] => (asIs xs).bind fun ns => if ns.length < 64 ∧ ns.Pairwise (· ≤ ·) then some (.lst xs) else none
  | _ => none
theorem ord_eq : ∀ {a b : List Int}, a.Pairwise (· ≤ ·) → b.Pairwise (· ≤ ·) → a.Perm b → a = b
  | [], b, _, _, p => (List.nil_perm.mp p).symm ▸ rfl
  | x :: a, [], _, _, p => absurd (List.perm_nil.mp p) (by simp)
  | x :: a, y :: b, ha, hb, p => by
    have h1 : x = y := by
      have m1 : x ∈ y :: b := p.subset List.mem_cons_self
      have m2 : y ∈ x :: a := p.symm.subset List.mem_cons_self
      rcases List.mem_cons.mp m1 with e | e
      · exact e
      · rcases List.mem_cons.mp m2 with e2 | e2
        · exact e2.symm
        · have := (List.pairwise_cons.mp hb).1 x e
          have := (List.pairwise_cons.mp ha).1 y e2
          omega
    subst h1
    rw [ord_eq (List.pairwise_cons.mp ha).2 (List.pairwise_cons.mp hb).2 (List.perm_cons x |>.mp p)]
section
variable {C : Cf}
theorem o_sorted : OpN C (rSorted C.K) sortF := by
  intro W σ H G vs ds Q hv q
  obtain ⟨d, e, k, k2, g⟩ := op_done q
  unfold sortF at e
  split at e
  · rename_i xs
    obtain ⟨ns, e1, e2⟩ := Option.bind_eq_some_iff.mp e
    split at e2
    · rename_i hp
      cases e2
      obtain ⟨v, rfl, h1⟩ := hv.one
      cases h1 with
      | lst hs r =>
        rw [asIs_ok e1] at r k2
        have r0 := r
        rw [HasAll.ints r] at hs r
        refine ⟨_, ns, rfl, .of (g.lst hs), hp.1, fun ns' p q1 q2 n => ?_⟩
        rw [ord_eq q2 hp.2 q1]
        exact k2 p _ n rfl (.lst upd_same (r.mono (.new (g.free n))))
    · cases e2
  · cases e
end
end DL
end
section
/-! dict(xs) of pairs with whole-number keys, as a dict of its own; its len -/
set_option Elab.async false
set_option linter.all false
set_option maxRecDepth 100000
namespace DL
open PySem PySem.Spec PyProof.Rows L2
def putD (kvs : List (Int × D)) (k : Int) (d : D) : List (Int × D) := if (kvs.any fun kv => decide (kv.1 = k)) = true then kvs.map (fun kv => if kv.1 = k then (kv.1, d) else kv) else kvs ++ [(k, d)]
def pairsD : List D → Option (List (Int × D))
  | [] => some []
  | .tup [.int i, d] :: xs => (pairsD xs).map fun r => (i, d) :: r
  | _ => none
def dictO : List D → Option (List (Int × D))
  | [.lst xs] => (pairsD xs).map fun r => r.foldl (fun acc kv => putD acc kv.1 kv.2) []
  | _ => none
def eLenK (i : Nat) : M D := fun a => match a[i]? with
  | some (.dK kvs) => .ok (.int kvs.length) a
  | _ => .bad
section
variable {C : Cf} {G : Hp}
theorem HasKv.any (i : Int) : ∀ {ks : List (Key × V)} {kvs : List (Int × D)}, HasKv C G ks kvs → (ks.any fun kv => decide (kv.1 = Sum.inl i)) = kvs.any fun kv => decide (kv.1 = i)
  | _, _, .nil => rfl
  | _, _, .cons h r => by
    rw [List.any_cons, List.any_cons, HasKv.any i r]
    congr 1
    simp
theorem HasKv.mapp (i : Int) {v : V} {d : D} (hv : Has C G v d) : ∀ {ks : List (Key × V)} {kvs : List (Int × D)}, HasKv C G ks kvs → HasKv C G (ks.map fun kv => if kv.1 = Sum.inl i then (kv.1, v) else kv) (kvs.map fun kv => if kv.1 = i then (kv.1, d) else kv)
  | _, _, .nil => .nil
  | _, _, .cons (i := j) h r => by
    rw [List.map_cons, List.map_cons]
    by_cases e : j = i
    · rw [if_pos (by simp [e]), if_pos e]
      exact .cons hv (HasKv.mapp i hv r)
    · rw [if_neg (by simp [e]), if_neg e]
      exact .cons h (HasKv.mapp i hv r)
theorem HasKv.app (i : Int) {v : V} {d : D} (hv : Has C G v d) : ∀ {ks : List (Key × V)} {kvs : List (Int × D)}, HasKv C G ks kvs → HasKv C G (ks ++ [(Sum.inl i, v)]) (kvs ++ [(i, d)])
  | _, _, .nil => .cons hv .nil
  | _, _, .cons h r => .cons h (HasKv.app i hv r)
theorem HasKv.put {i : Int} {v : V} {d : D} (hv : Has C G v d) {ks : List (Key × V)} {kvs : List (Int × D)} (h : HasKv C G ks kvs) : HasKv C G (putK ks (.inl i) v) (putD kvs i d) := by
  unfold putK putD
  rw [h.any i]
  split
  · exact h.mapp i hv
  · exact h.app i hv
theorem HasKv.merge : ∀ (ms : List (Key × V)) (ds : List (Int × D)) {ks : List (Key × V)} {kvs : List (Int × D)}, HasKv C G ms ds → HasKv C G ks kvs → HasKv C G (mergeK ks ms) (ds.foldl (fun acc kv => putD acc kv.1 kv.2) kvs)
  | [], [], _, _, _, h => h
  | [], _ :: _, _, _, hm, _ => by cases hm
  | _ :: _, [], _, _, hm, _ => by cases hm
  | _ :: ms, _ :: ds, _, _, hm, h => by
    cases hm with
    | cons hv r => exact HasKv.merge ms ds r (h.put hv)
theorem HasKv.len : ∀ {ks : List (Key × V)} {kvs : List (Int × D)}, HasKv C G ks kvs → ks.length = kvs.length
  | _, _, .nil => rfl
  | _, _, .cons _ r => by rw [List.length_cons, List.length_cons, HasKv.len r]
theorem pairs_has {H : Hp} (g : Sub C G H) : ∀ {xs : List D} {vs : List V} {r : List (Int × D)}, HasAll C G vs xs → pairsD xs = some r → ∃ (ps : List Addr) (ks : List (Key × V)), vs = ps.map V.ref ∧ Paired (fun p kv => SqT C.K H p [kV kv.1, kv.2]) ps ks ∧ HasKv C G ks r
  | [], _, r, .nil, e => by
    cases e
    exact ⟨[], [], rfl, .nil, .nil⟩
  | x :: xs, _, r, .cons h1 hr, e => by
    unfold pairsD at e
    split at e
    · rename_i heq
      cases heq
    · rename_i i d xs' heq
      cases heq
      obtain ⟨r', e1, rfl⟩ := Option.map_eq_some_iff.mp e
      obtain ⟨ps, ks, rfl, hp, hk⟩ := pairs_has g hr e1
      cases h1 with
      | tup hs rr =>
        cases rr with
        | cons ha rb =>
          cases ha
          obtain ⟨v2, rfl, hb⟩ := rb.one
          exact ⟨_ :: ps, (.inl i, v2) :: ks, rfl, .cons ((Sub.grow (C := C) g).sqT hs) hp, .cons hb hk⟩
    · cases e
end
section
variable {X : Cx} {C : Cf} {W : WX} {pos p apos cpos : Pos} {i : Nat} {x : Str}
theorem call_lenK : CallR X (.builtin "len") (fun xs H Q => ∃ a kvs, xs = [.ref a] ∧ Rd H a (.dK kvs) ∧ Q (.int kvs.length) H) := by
  intro pins s σ H xs us Q I r h
  obtain ⟨a, kvs, rfl, e, q⟩ := h
  rw [Vals.ref1 r]
  exact d_len I e fun t s' I' => ⟨.int _, H, I', ⟨_, rfl⟩, q⟩
theorem d_lenK (i : Nat) (hm : X.mg "len" = none) (hN : X.N[i]? = some x := by rfl) (hv : Vis X.env.scope x := by first | exact Or.inl rfl | exact Or.inr (Or.inl rfl) | exact Or.inr (Or.inr rfl)) (hg : Gl X "len" := by rfl) (hd : (x == ("__debug__" : Str)) = false := by decide)
    (hcd : (x == ("__classdict__" : Str)) = false := by decide) (he : starEach [.Name x pos] X.env = (false, eval (.Name x pos) X.env) :: starEach [] X.env := by rfl) : DE X C W (.Call (.Name "len" p) [.Name x pos] [] cpos) (eLenK i) :=
  ⟨PE.weak (pe_callB call_lenK hg hm PySem.boot_len (pa_cons (pe_var hN hv hd hcd) pa_nil he) (by decide) (by decide) he) fun σ H Q ⟨G, q⟩ => by
    obtain ⟨B, G0, a, r, h⟩ := q
    unfold eLenK at h
    cases e : a[i]? with
    | none => rw [e] at h; exact h.elim
    | some sl =>
      rw [e] at h
      cases sl with
      | dK kvs =>
        obtain ⟨pp, o, e1, e2, e3, e4, e5⟩ := r.slot i _ e
        cases o with
        | dK ks =>
          refine ⟨_, e1, _, ks, rfl, .of e2, ?_⟩
          rw [HasKv.len e3]
          exact h H G .refl r _ (.int _)
        | _ => exact e3.elim
      | _ => exact h.elim⟩
theorem df_dict {e : Expr} {m : M (List D)} (hc : X.calm = true) (hK : X.K = C.K) (hm : X.mg "dict" = none) (ha : DA X C W [e] m) (hg : Gl X "dict" := by rfl) (he : starEach [e] X.env = (false, eval e X.env) :: starEach [] X.env := by rfl) (hpl : (backTo pos (starEach [] X.env)).any (·.1) = false := by rfl) :
    DF X C W Slot.dK (.Call (.Name "dict" p) [e] [] pos) (m.bind fun ds => lft (dictO ds)) :=
  ⟨PE.weak (pe_callTy (call_dictP hc) hg hm (by decide +kernel) ha.pa (by decide) (by decide) he hpl) fun σ H Q ⟨G, q⟩ => ⟨G, run_imp (run_bind q) fun _ _ H1 G1 ds g q vs hvs => by
    obtain ⟨kvs, e, B, G0, a, r, k⟩ := run_lft q
    rw [hK]
    unfold dictO at e
    split at e
    · obtain ⟨rr, e1, rfl⟩ := Option.map_eq_some_iff.mp e
      obtain ⟨v, rfl, h1⟩ := hvs.one
      cases h1 with
      | lst hs hr =>
        obtain ⟨ps, ks, rfl, hp, hk⟩ := pairs_has r.gh hr e1
        exact ⟨_, ps, ks, rfl, .of (r.gh.lst hs), hp, fun l n => k H1 G1 .refl r l _ _ upd_same (hk.merge _ _ .nil) (r.gh.free n) (r.bh.free n) (r.lone n) (.laid r.gh n)⟩
    · cases e⟩⟩
end
end DL
end
section
/-! dicts with whole-number keys as values: in, [], a copy, a store, {} -/
set_option Elab.async false
set_option linter.all false
set_option maxRecDepth 100000
namespace DL
open PySem PySem.Spec PyProof.Rows L2
def valD (kvs : List (Int × D)) (k : Int) : Option D := (kvs.find? fun kv => decide (kv.1 = k)).map (·.2)
def inK : D → D → Option D
  | .int i, .dic kvs => some (.bl (valD kvs i).isSome)
  | _, _ => none
def ninK : D → D → Option D
  | .int i, .dic kvs => some (.bl (!(valD kvs i).isSome))
  | _, _ => none
def getK : D → D → Option D
  | .dic kvs, .int i => valD kvs i
  | _, _ => none
def copyO : List D → Option (List (Int × D))
  | [.dic kvs] => some kvs
  | _ => none
section
variable {C : Cf} {G : Hp}
theorem HasKv.val (i : Int) : ∀ {ks : List (Key × V)} {kvs : List (Int × D)}, HasKv C G ks kvs → (∀ d, valD kvs i = some d → ∃ v, valV ks (.inl i) = some v ∧ Has C G v d) ∧ (valV ks (.inl i)).isSome = (valD kvs i).isSome
  | _, _, .nil => ⟨fun d e => (by cases e), rfl⟩
  | _, _, .cons (i := j) (v := v) (vs := vs) (d := d) (ds := ds) h r => by
    obtain ⟨r1, r2⟩ := HasKv.val i r
    by_cases e : j = i
    · subst e
      constructor
      · intro d' e'
        simp [valD] at e'
        subst e'
        exact ⟨v, by simp [valV], h⟩
      · simp [valD, valV]
    · have e1 : valV ((Sum.inl j, v) :: vs) (Sum.inl i : Key) = valV vs (Sum.inl i) := valV_neg (p := ((Sum.inl j : Key), v)) (r := vs) (by simpa using e)
      constructor
      · intro d' e'
        obtain ⟨v', h1, h2⟩ := r1 d' (by simpa [valD, e] using e')
        exact ⟨v', by rw [e1]; exact h1, h2⟩
      · rw [e1, r2]
        simp [valD, e]
end
section
variable {X : Cx} {C : Cf} {W : WX} {pos p apos cpos : Pos} {i : Nat} {x : Str}
theorem de_din {a b : Expr} {ma mb : M D} (hx : X.A.units + 65 < cLine) (ha : DE X C W a ma) (hb : DE X C W b mb) (hm : behindInMarks .In b = false) : DE X C W (.Compare a [.In] [b] pos) (e2 inK ma mb) :=
  ⟨PE.weak (pe_cmp (pc_din (by omega) ha.pe hb.pe) hm) fun σ H Q ⟨G, q⟩ => ⟨G, run_imp (run_bind q) fun _ _ H1 G1 x g1 q1 v hv => ⟨G1, run_imp (run_bind q1) fun _ _ H2 G2 y g2 q2 u hu => by
    obtain ⟨d, e, B, G0, a, r, k⟩ := run_lft q2
    unfold inK at e
    split at e
    · cases e
      cases hv
      cases hu with
      | dic hs hk => exact ⟨_, _, rfl, .inl ⟨_, .inl _, .of (r.gh.sub _ _ hs rfl), rfl, rfl⟩, by rw [(hk.val _).2]; exact k H2 G2 .refl r _ (.bl _)⟩
    · cases e⟩⟩⟩
theorem de_dnin {a b : Expr} {ma mb : M D} (hx : X.A.units + 65 < cLine) (ha : DE X C W a ma) (hb : DE X C W b mb) (hm : behindInMarks .NotIn b = false) : DE X C W (.Compare a [.NotIn] [b] pos) (e2 ninK ma mb) :=
  ⟨PE.weak (pe_cmp (pc_dnotin (by omega) ha.pe hb.pe) hm) fun σ H Q ⟨G, q⟩ => ⟨G, run_imp (run_bind q) fun _ _ H1 G1 x g1 q1 v hv => ⟨G1, run_imp (run_bind q1) fun _ _ H2 G2 y g2 q2 u hu => by
    obtain ⟨d, e, B, G0, a, r, k⟩ := run_lft q2
    unfold ninK at e
    split at e
    · cases e
      cases hv
      cases hu with
      | dic hs hk => exact ⟨_, _, rfl, .inl ⟨_, .inl _, .of (r.gh.sub _ _ hs rfl), rfl, rfl⟩, by rw [(hk.val _).2]; exact k H2 G2 .refl r _ (.bl _)⟩
    · cases e⟩⟩⟩
theorem dt_din {a b : Expr} {ma mb : M D} (hx : X.A.units + 65 < cLine) (ha : DE X C W a ma) (hb : DE X C W b mb) (hm : behindInMarks .In b = false) : DT X C W (.Compare a [.In] [b] pos) (mB (e2 inK ma mb)) :=
  ⟨PT.weak (pt_cmp (pc_din (by omega) ha.pe hb.pe) hm) fun σ H Q ⟨G, q⟩ => ⟨G, run_imp (run_bind (run_asB q)) fun _ _ H1 G1 x g1 q1 v hv => ⟨G1, run_imp (run_bind q1) fun _ _ H2 G2 y g2 q2 u hu => by
    obtain ⟨d, e, B, G0, a, r, k⟩ := run_lft q2
    unfold inK at e
    split at e
    · cases e
      cases hv
      cases hu with
      | dic hs hk =>
        obtain ⟨b, eb, B', G0', a', r', q3⟩ := k H2 G2 .refl r
        cases eb
        exact ⟨_, _, rfl, .inl ⟨_, .inl _, .of (r.gh.sub _ _ hs rfl), rfl, rfl⟩, _, rfl, by rw [(hk.val _).2]; exact q3 H2 G2 .refl r'⟩
    · cases e⟩⟩⟩
theorem dt_dnin {a b : Expr} {ma mb : M D} (hx : X.A.units + 65 < cLine) (ha : DE X C W a ma) (hb : DE X C W b mb) (hm : behindInMarks .NotIn b = false) : DT X C W (.Compare a [.NotIn] [b] pos) (mB (e2 ninK ma mb)) :=
  ⟨PT.weak (pt_cmp (pc_dnotin (by omega) ha.pe hb.pe) hm) fun σ H Q ⟨G, q⟩ => ⟨G, run_imp (run_bind (run_asB q)) fun _ _ H1 G1 x g1 q1 v hv => ⟨G1, run_imp (run_bind q1) fun _ _ H2 G2 y g2 q2 u hu => by
    obtain ⟨d, e, B, G0, a, r, k⟩ := run_lft q2
    unfold ninK at e
    split at e
    · cases e
      cases hv
      cases hu with
      | dic hs hk =>
        obtain ⟨b, eb, B', G0', a', r', q3⟩ := k H2 G2 .refl r
        cases eb
        exact ⟨_, _, rfl, .inl ⟨_, .inl _, .of (r.gh.sub _ _ hs rfl), rfl, rfl⟩, _, rfl, by rw [(hk.val _).2]; exact q3 H2 G2 .refl r'⟩
    · cases e⟩⟩⟩
/-- d[k] -/
theorem de_dget {a b : Expr} {ma mb : M D} (hx : X.A.units + 65 < cLine) (ha : DE X C W a ma) (hb : DE X C W b mb) (hs : NoSl b := by exact fun _ _ => rfl) : DE X C W (.Subscript a b pos) (e2 getK ma mb) :=
  ⟨PE.weak (pe_dget (by omega) ha.pe hb.pe hs) fun σ H Q ⟨G, q⟩ => ⟨G, run_imp (run_bind q) fun _ _ H1 G1 x g1 q1 v hv => ⟨G1, run_imp (run_bind q1) fun _ _ H2 G2 y g2 q2 u hu => by
    obtain ⟨d, e, B, G0, a, r, k⟩ := run_lft q2
    have hv := hv.mono g2
    unfold getK at e
    split at e
    · cases hu
      cases hv with
      | dic hs hk =>
        obtain ⟨v', h1, h2⟩ := (hk.val _).1 _ e
        exact ⟨_, v', rfl, .inl ⟨_, _, .of (r.gh.sub _ _ hs rfl), rfl, h1.symm⟩, k H2 G2 .refl r _ h2⟩
    · cases e⟩⟩⟩
/-- {} -/
theorem de_dnew : DE X C W (.Dict [] [] pos) (eC (.dic [])) :=
  ⟨PE.weak pe_dnewK fun σ H Q ⟨G, q⟩ => fun p n => by
    obtain ⟨B, G0, a, r, q⟩ := run_pure q
    exact q _ _ (.new (r.gh.free n)) (r.alloc n) _ (.dic upd_same .nil)⟩
/-- dict(d) -/
theorem df_copy {e : Expr} {m : M (List D)} (hK : X.K = C.K) (hm : X.mg "dict" = none) (ha : DA X C W [e] m) (hg : Gl X "dict" := by rfl) (he : starEach [e] X.env = (false, eval e X.env) :: starEach [] X.env := by rfl) (hpl : (backTo pos (starEach [] X.env)).any (·.1) = false := by rfl) :
    DF X C W Slot.dK (.Call (.Name "dict" p) [e] [] pos) (m.bind fun ds => lft (copyO ds)) :=
  ⟨PE.weak (pe_callTy call_dictD hg hm (by decide +kernel) ha.pa (by decide) (by decide) he hpl) fun σ H Q ⟨G, q⟩ => ⟨G, run_imp (run_bind q) fun _ _ H1 G1 ds g q vs hvs => by
    obtain ⟨kvs, e, B, G0, a, r, k⟩ := run_lft q
    unfold copyO at e
    split at e
    · cases e
      obtain ⟨v, rfl, h1⟩ := hvs.one
      cases h1 with
      | dic hs hk => exact ⟨_, _, rfl, .of (r.gh.sub _ _ hs rfl), fun l n => k H1 G1 .refl r l _ _ upd_same hk (r.gh.free n) (r.bh.free n) (r.lone n) (.laid r.gh n)⟩
    · cases e⟩⟩
/-- x[k] = v, x a dict of its own -/
def ePutK (i : Nat) (mv mk : M D) : M D := fun a => match a[i]? with
  | some (.dK _) => (mv.bind fun v => mk.bind fun k a1 => match a1[i]?, k with
    | some (.dK kvs), .int j => if sz (kvs.length + 1) = true then R.ok .non (a1.set i (.dK (putD kvs j v))) else .bad
    | _, _ => .bad) a
  | _ => .bad
theorem d_dput {e : Expr} {k : Expr} {mv mk : M D} (hx : X.A.units + 65 < cLine) (hval : DE X C W e mv) (hk : DE X C W k mk) (hN : X.N[i]? = some x := by rfl) (hv : Vis X.env.scope x := by first | exact Or.inl rfl | exact Or.inr (Or.inl rfl) | exact Or.inr (Or.inr rfl)) (hd : (x == ("__debug__" : Str)) = false := by decide) (hcd : (x == ("__classdict__" : Str)) = false := by decide)
    (hs : swapsWith e (some (.Subscript (.Name x p) k apos)) pos.line X.env = pure false := by rfl) : DS X C W (.Assign [.Subscript (.Name x p) k apos] e pos) (sDrop (ePutK i mv mk)) :=
  ⟨PS.weak (ps_dput (by omega) (pe_var hN hv hd hcd) hk.pe hval.pe hs) fun Dn σ H ⟨G, q⟩ => by
    have q : run C W (ePutK i mv mk) σ H G (fun _ _ H' _ _ => Dn.nx σ H') := run_imp (srun_bind q) fun _ _ H1 G1 d g ⟨B, G0, a, r, q⟩ => q σ H1 G1 .refl r
    obtain ⟨B, G0, a, r0, q⟩ := q
    unfold ePutK at q
    cases e0 : a[i]? with
    | none => rw [e0] at q; exact q.elim
    | some s =>
      rw [e0] at q
      cases s with
      | dK ks0 =>
        obtain ⟨p0, o, h1, h2, h3, h4, h5⟩ := r0.slot i _ e0
        cases o with
        | dK vs0 =>
          have q : run C W (mv.bind fun v => mk.bind fun k a1 => match a1[i]?, k with
            | some (.dK kvs), .int j => if sz (kvs.length + 1) = true then R.ok D.non (a1.set i (.dK (putD kvs j v))) else .bad
            | _, _ => .bad) σ H G (fun _ _ H' _ _ => Dn.nx σ H') := ⟨B, G0, a, r0, q⟩
          refine ⟨G, run_imp (run_bind q) fun _ _ H1 G1 v g1 q1 w hw => ⟨_, h1, G1, run_imp (run_bind q1) fun _ _ H2 G2 y g2 q2 u hu => ?_⟩⟩
          obtain ⟨B, G0, a, r1, q2⟩ := q2
          dsimp only at q2
          cases e1 : a[i]? with
          | none => rw [e1] at q2; exact q2.elim
          | some s =>
            rw [e1] at q2
            cases s with
            | dK kvs =>
              obtain ⟨p1, o, w1, w2, w3, w4, w5⟩ := r1.slot i _ e1
              rw [h1] at w1
              cases w1
              cases o with
              | dK vs =>
                cases hu with
                | int j =>
                  dsimp only at q2
                  by_cases hz : sz (kvs.length + 1) = true
                  · rw [if_pos hz] at q2
                    exact ⟨p0, _, rfl, .inl ⟨vs, .inl j, w2, rfl, by rw [HasKv.len w3]; exact sz_lt hz, rfl⟩, q2 _ G2 .refl (r1.write (o := .dK vs) (o' := .dK (putK vs (.inl j) w)) (t := .dK (putD kvs j v)) e1 rfl h1 (show OwnOk C G2 (.dK (putD kvs j v)) (.dK (putK vs (.inl j) w)) from HasKv.put (hw.mono g2) w3))⟩
                  · rw [if_neg hz] at q2
                    exact q2.elim
                | _ => exact q2.elim
              | _ => exact w3.elim
            | _ => exact q2.elim
        | _ => exact h3.elim
      | _ => exact q.elim⟩
end
end DL
end
section
/-! sorted of a list of tuples of ints, all of one length, no two alike -/
set_option Elab.async false
set_option linter.all false
set_option maxRecDepth 100000
namespace DL
open PySem PySem.Spec PyProof.Rows L2
def dIw (w : List Int) : D := .tup (w.map D.int)
/-- a list of words and the same in order -/
structure SortU (ds : List D) (us : List (List Int)) : Prop where
  ex : ∃ ws : List (List Int), ds = [.lst (ws.map dIw)] ∧ us.Perm ws ∧ us.length < 64
  len : ∃ d, 1 ≤ d ∧ ∀ u ∈ us, u.length = d
  bd : ∀ u ∈ us, TS.Bd 6 u
  srt : us.Pairwise fun u v => TS.code 6 u < TS.code 6 v
open Classical in
noncomputable def sortUF (ds : List D) : Option D := if h : ∃ us, SortU ds us then some (.lst (h.choose.map dIw)) else none
theorem intsU_inj : ∀ {a b : List Int}, a.map D.int = b.map D.int → a = b
  | [], [], _ => rfl
  | [], _ :: _, h => by cases h
  | _ :: _, [], h => by cases h
  | x :: a, y :: b, h => by
    rw [List.map_cons, List.map_cons] at h
    have h1 := (List.cons.inj h).1
    cases h1
    rw [intsU_inj (List.cons.inj h).2]
theorem dIw_inj {a b : List Int} (h : dIw a = dIw b) : a = b := intsU_inj (D.tup.inj h)
theorem words_inj : ∀ {a b : List (List Int)}, a.map dIw = b.map dIw → a = b
  | [], [], _ => rfl
  | [], _ :: _, h => by cases h
  | _ :: _, [], h => by cases h
  | x :: a, y :: b, h => by
    rw [List.map_cons, List.map_cons] at h
    rw [dIw_inj (List.cons.inj h).1, words_inj (List.cons.inj h).2]
theorem code_ord : ∀ {a b : List (List Int)}, a.Pairwise (fun u v => TS.code 6 u < TS.code 6 v) → b.Pairwise (fun u v => TS.code 6 u ≤ TS.code 6 v) → b.Perm a → b = a
  | [], b, _, _, p => List.perm_nil.mp p
  | x :: a, [], _, _, p => by simpa using (List.nil_perm.mp p)
  | x :: a, y :: b, ha, hb, p => by
    have h1 : y = x := by
      have m1 : y ∈ x :: a := p.subset List.mem_cons_self
      have m2 : x ∈ y :: b := p.symm.subset List.mem_cons_self
      rcases List.mem_cons.mp m1 with e | e
      · exact e
      · rcases List.mem_cons.mp m2 with e2 | e2
        · exact e2.symm
        · have q1 := (List.pairwise_cons.mp hb).1 x e2
          have q2 := (List.pairwise_cons.mp ha).1 y e
          omega
    subst h1
    rw [code_ord (List.pairwise_cons.mp ha).2 (List.pairwise_cons.mp hb).2 (List.perm_cons y |>.mp p)]
theorem SortU.one {ds : List D} {us vs : List (List Int)} (h : SortU ds us) (g : SortU ds vs) : us = vs := by
  obtain ⟨ws, e, p, _⟩ := h.ex
  obtain ⟨ws', e', p', _⟩ := g.ex
  rw [e] at e'
  have e2 : ws.map dIw = ws'.map dIw := D.lst.inj (List.cons.inj e').1
  have := words_inj e2
  subst this
  exact code_ord g.srt (h.srt.imp fun q => Int.le_of_lt q) (p.trans p'.symm)
theorem sortUF_is {ds : List D} {us : List (List Int)} (h : SortU ds us) : sortUF ds = some (.lst (us.map dIw)) := by
  have hx : ∃ us, SortU ds us := ⟨us, h⟩
  unfold sortUF
  rw [dif_pos hx, h.one hx.choose_spec]
section
variable {C : Cf}
theorem perm_has {G : Hp} {vs ys : List V} (p : ys.Perm vs) : ∀ {ws : List (List Int)}, HasAll C G vs (ws.map dIw) → ∃ us : List (List Int), us.Perm ws ∧ HasAll C G ys (us.map dIw) := by
  induction p with
  | nil => exact fun {ws} h => ⟨ws, .refl _, h⟩
  | @cons x l1 l2 _ ih =>
    intro ws h
    cases ws with
    | nil => cases h
    | cons w ws =>
      rw [List.map_cons] at h
      cases h with
      | cons h1 h2 =>
        obtain ⟨us, q, hu⟩ := ih h2
        exact ⟨w :: us, q.cons _, .cons h1 hu⟩
  | swap x y l =>
    intro ws h
    match ws, h with
    | w1 :: w2 :: ws, .cons h1 (.cons h2 h3) => exact ⟨w2 :: w1 :: ws, .swap .., .cons h2 (.cons h1 h3)⟩
  | trans _ _ ih1 ih2 =>
    intro ws h
    obtain ⟨us, q, hu⟩ := ih2 h
    obtain ⟨us', q', hu'⟩ := ih1 hu
    exact ⟨us', q'.trans q, hu'⟩
theorem has_tupI {G H : Hp} (g : Sub C G H) {v : V} {w : List Int} (h : Has C G v (dIw w)) : TupI C.K H v w := by
  unfold dIw at h
  cases h with
  | tup hs r =>
    rw [HasAll.ints r] at hs
    exact ⟨_, rfl, (Sub.grow (C := C) g).sqT hs⟩
theorem pair_has {G H : Hp} (g : Sub C G H) : ∀ {ys : List V} {us : List (List Int)}, HasAll C G ys (us.map dIw) → ys.Pairwise (fun x y => ∀ n m, TupI C.K H x n → TupI C.K H y m → TS.code 6 n ≤ TS.code 6 m) → us.Pairwise fun u v => TS.code 6 u ≤ TS.code 6 v
  | _, [], _, _ => .nil
  | y :: ys, u :: us, .cons h1 h2, hp => by
    rw [List.pairwise_cons] at hp ⊢
    refine ⟨fun v hv => ?_, pair_has g h2 hp.2⟩
    have key : ∀ {ys : List V} {us : List (List Int)}, HasAll C G ys (us.map dIw) → v ∈ us → ∃ z ∈ ys, TupI C.K H z v := by
      intro ys us
      induction us generalizing ys with
      | nil => intro _ hm; cases hm
      | cons a us ih =>
        intro hh hm
        cases hh with
        | cons ha hb =>
          rcases List.mem_cons.mp hm with e | hm
          · subst e
            exact ⟨_, List.mem_cons_self, has_tupI g ha⟩
          · obtain ⟨z, hz, ht⟩ := ih hb hm
            exact ⟨z, List.mem_cons_of_mem _ hz, ht⟩
    obtain ⟨z, hz, ht⟩ := key h2 hv
    exact hp.1 z hz u v (has_tupI g h1) ht
theorem each_has {G H : Hp} (g : Sub C G H) : ∀ {vs : List V} {ws : List (List Int)}, HasAll C G vs (ws.map dIw) → (vs.length = ws.length) ∧ ∀ x ∈ vs, ∃ w ∈ ws, TupI C.K H x w
  | _, [], .nil => ⟨rfl, fun x hx => by cases hx⟩
  | v :: vs, w :: ws, .cons h1 h2 => by
    obtain ⟨a, b⟩ := each_has g h2
    refine ⟨by rw [List.length_cons, List.length_cons, a], fun x hx => ?_⟩
    rcases List.mem_cons.mp hx with e | hx
    · subst e
      exact ⟨w, List.mem_cons_self, has_tupI g h1⟩
    · obtain ⟨u, hu, ht⟩ := b x hx
      exact ⟨u, List.mem_cons_of_mem _ hu, ht⟩
def rSortX (K : PySem.W.Frag) : List V → Hp → VK → Prop := fun vs H Q => ∃ d, 1 ≤ d ∧ rSortU K d 6 vs H Q
theorem o_sortU : OpN C (rSortX C.K) sortUF := by
  intro W σ H G vs ds Q hv q
  obtain ⟨d, e, k, k2, g⟩ := op_done q
  unfold sortUF at e
  split at e
  · rename_i hx
    have spec := hx.choose_spec
    generalize hx.choose = us at e spec
    cases e
    obtain ⟨ws, rfl, pm, h64⟩ := spec.ex
    obtain ⟨dd, hd1, hdl⟩ := spec.len
    obtain ⟨v, rfl, h1⟩ := hv.one
    cases h1 with
    | lst hs r =>
      obtain ⟨hl, he⟩ := each_has g r
      refine ⟨dd, hd1, _, _, rfl, .of (g.lst hs), by rw [hl, ← pm.length_eq]; exact h64, fun x hx => ?_, fun ys p pp pw n => ?_⟩
      · obtain ⟨w, hw, ht⟩ := he x hx
        have hw' := pm.symm.subset hw
        exact ⟨w, ht, hdl w hw', spec.bd w hw'⟩
      · obtain ⟨us', p', hh⟩ := perm_has pp r
        have pw' := pair_has g hh pw
        have eu := code_ord spec.srt pw' (p'.trans pm.symm)
        subst eu
        exact k2 p _ n rfl (.lst upd_same (hh.mono (.new (g.free n))))
  · cases e
end
theorem cr_sortU {X : Cx} : CallR X (.builtin "sorted") (rSortX X.K) := fun pins s σ H vs us Q I r ⟨_, hd, h⟩ => cr_sortT hd pins s σ H vs us Q I r h
/-! d.get(k, x) -/
def isDic : D → Option Unit
  | .dic _ => some ()
  | _ => none
def get2 : D → D → D → Option D
  | .dic kvs, .int i, z => some ((valD kvs i).getD z)
  | _, _, _ => none
def eGet2 (mo me mf : M D) : M D := mo.bind fun x => (lft (isDic x)).bind fun _ => me.bind fun y => mf.bind fun z => lft (get2 x y z)
section
variable {X : Cx} {C : Cf} {W : WX} {apos cpos : Pos}
theorem de_get2 {o e f : Expr} {mo me mf : M D} (hx : X.A.units + 65 < cLine) (ho : DE X C W o mo) (he : DE X C W e me) (hf : DE X C W f mf) (m : M2 X o "get" apos e f cpos) : DE X C W (.Call (.Attribute o "get" apos) [e, f] [] cpos) (eGet2 mo me mf) :=
  ⟨PE.weak (pe_dget2 (by omega) ho.pe he.pe hf.pe m) fun σ H Q ⟨G, q⟩ => ⟨G, run_imp (run_bind q) fun _ _ H1 G1 x g1 q1 v hv => by
    obtain ⟨u, e1, B, G0, a, r, k⟩ := run_lft (run_bind q1)
    unfold isDic at e1
    split at e1
    · rename_i kvs
      have q1' := k H1 G1 .refl r
      cases hv with
      | dic hs hk =>
        refine ⟨_, rfl, .inl ⟨_, .of (r.gh.sub _ _ hs rfl)⟩, G1, run_imp (run_bind q1') fun _ _ H2 G2 y g2 q2 w hw => ⟨G2, run_imp (run_bind q2) fun _ _ H3 G3 z g3 q3 t ht => ?_⟩⟩
        obtain ⟨d, e3, B3, G03, a3, r3, k3⟩ := run_lft q3
        have hd : Has C G3 _ (.dic kvs) := ((Has.dic hs hk).mono g2).mono g3
        cases hw with
        | int i =>
          have e3 : some ((valD kvs i).getD z) = some d := e3
          cases e3
          cases hd with
          | dic hs3 hk3 =>
            refine ⟨_, .inl ⟨_, .inl i, .of (r3.gh.sub _ _ hs3 rfl), rfl, rfl⟩, ?_⟩
            cases e4 : valD kvs i with
            | some dd =>
              obtain ⟨v', hv1, hv2⟩ := (hk3.val i).1 dd e4
              rw [hv1]
              exact k3 H3 G3 .refl r3 v' (by rw [e4]; exact hv2)
            | none =>
              have hn := (hk3.val i).2
              rw [e4] at hn
              cases hv3 : valV _ (Sum.inl i : Key) with
              | some v' => rw [hv3] at hn; cases hn
              | none =>
                exact k3 H3 G3 .refl r3 t (by rw [e4]; exact ht)
        | _ => cases e3
    · cases e1⟩⟩
end
end DL
end
section
/-! sorted of a list of alike data: one list, List.mergeSort -/
set_option Elab.async false
set_option linter.all false
set_option maxRecDepth 100000
set_option maxHeartbeats 4000000
namespace DL
open PySem PySem.Spec PySem.W PyProof.Rows L2
/-- tuples with something in them -/
def tupB : PyData → Bool
  | .tuple (_ :: _) => true
  | _ => false
theorem tupB_ok {p : PyData} (h : tupB p = true) : ∃ x r, p = .tuple (x :: r) := by
  unfold tupB at h
  split at h
  · exact ⟨_, _, rfl⟩
  · cases h
def sortB (ps : List PyData) : Bool := ps.all (fun x => ps.all fun y => alike x y) && ps.all tupB
theorem sortB_ok {ps : List PyData} (h : sortB ps = true) : AllAlike ps ∧ Sortable ps := by
  unfold sortB at h
  rw [Bool.and_eq_true] at h
  exact ⟨fun x hx y hy => List.all_eq_true.mp (List.all_eq_true.mp h.1 x hx) y hy, .inl fun d hd => tupB_ok (List.all_eq_true.mp h.2 d hd)⟩
def rSortDt (K : PySem.W.Frag) : List V → Hp → VK → Prop := fun vs H Q => ∃ (a : Addr) (xs : List V) (ps : List PyData), vs = [.ref a] ∧ SqL K H a xs ∧ DpAll K H xs ps ∧ sortB ps = true ∧ PyData.depthAll ps ≤ 59 ∧
  ∀ p, H p = none → Q (.ref p) (upd H p (.lst (((xs.zip ps).mergeSort (dataLe false Prod.snd)).map Prod.fst)))
theorem dpAll_len {K : PySem.W.Frag} {H : Hp} : ∀ {xs : List V} {ps : List PyData}, DpAll K H xs ps → xs.length = ps.length
  | _, _, .nil => rfl
  | _, _, .cons _ r => by rw [List.length_cons, List.length_cons, dpAll_len r]
theorem ea_zip {h : Heap} : ∀ {xs : List V} {ps : List PyData} {us : List Value} {as : List Addr}, Vals xs us → ReadsAll h us ps as → EachIs (fun u (b : V × PyData) => RelV b.1 u) us (xs.zip ps) ∧ EachIs (fun u (b : V × PyData) => ∃ as, Reads h u b.2 as) us (xs.zip ps)
  | _, _, _, _, .nil, .nil => ⟨.nil, .nil⟩
  | _, _, _, _, .cons r t, .cons h1 h2 => by
    obtain ⟨a, b⟩ := ea_zip t h2
    exact ⟨.cons r a, .cons ⟨_, h1⟩ b⟩
theorem ea_vals : ∀ {us : List Value} {bs : List (V × PyData)}, EachIs (fun u (b : V × PyData) => RelV b.1 u) us bs → Vals (bs.map Prod.fst) us
  | _, _, .nil => .nil
  | _, _, .cons h t => .cons h (ea_vals t)
theorem depth_le : ∀ {ps : List PyData} {p : PyData}, p ∈ ps → p.depth ≤ PyData.depthAll ps
  | [], _, h => by cases h
  | q :: ps, p, h => by
    unfold PyData.depthAll
    rcases List.mem_cons.mp h with e | h
    · rw [e]; exact Nat.le_max_left _ _
    · exact Nat.le_trans (depth_le h) (Nat.le_max_right _ _)
theorem cr_sortDt {X : Cx} (hu : X.A.units + 65 < cLine) : CallR X (.builtin "sorted") (rSortDt X.K) := by
  intro pins s σ H vs us Q I r h
  obtain ⟨a, xs, ps, rfl, hs, hd, hb, hz, q⟩ := h
  obtain ⟨its, rv, hl, hsz⟩ := I.list hs
  rw [Vals.ref1 r]
  obtain ⟨as, hr⟩ := Dp.readsAll I ps xs its hd rv
  obtain ⟨e1, e2⟩ := ea_zip rv hr
  have hlen := dpAll_len hd
  have hm : (xs.zip ps).map Prod.snd = ps := List.map_snd_zip (by omega)
  obtain ⟨ok1, ok2⟩ := sortB_ok hb
  refine sorted_data (R := fun u (b : V × PyData) => RelV b.1 u) (bs := xs.zip ps) (enc := Prod.snd) hl.isList e1 e2 (by rw [hm]; exact ok1) (by rw [hm]; exact ok2) (by rw [List.length_zip, ← hlen, Nat.min_self]; exact hsz) (fun b hb => ?_) fun out ho he => ?_
  · have h1 : b.2 ∈ ps := (List.of_mem_zip hb).2
    have h2 := depth_le h1
    omega
  · obtain ⟨ep, he'⟩ := PyProof.Rows.sortedAll_at s.heap its (List.toArray out)
    have hv := ea_vals he
    refine ⟨.ref _, upd H (s.heap.objs.size + 1) (.lst (((xs.zip ps).mergeSort (dataLe false Prod.snd)).map Prod.fst)), I.laid (t' := s.toks) (fun _ _ => PyProof.Rows.sortedAll_old) (Nat.le_succ _) ⟨?_, out, ep, hv, he'⟩, rfl, q _ (I.hok.fresh (Nat.le_succ _))⟩
    rw [List.length_map, List.length_mergeSort, List.length_zip, ← hlen, Nat.min_self]
    exact hsz
def leD (x y : D) : Bool := dataLe false toP x y
def sortDF : List D → Option D
  | [.lst xs] => if (lvls 59 xs && sortB (toPs xs)) = true then some (.lst (xs.mergeSort leD)) else none
  | _ => none
theorem toPs_map : ∀ xs : List D, toPs xs = xs.map toP
  | [] => by unfold toPs; rfl
  | x :: xs => by unfold toPs; rw [List.map_cons, toPs_map xs]
section
variable {C : Cf}
theorem ea_has {G : Hp} : ∀ {vs : List V} {ds : List D}, HasAll C G vs ds → EachIs (fun (b : V × PyData) d => Has C G b.1 d ∧ b.2 = toP d) (vs.zip (ds.map toP)) ds
  | _, _, .nil => .nil
  | _, _, .cons h r => .cons ⟨h, rfl⟩ (ea_has r)
theorem has_ea {G : Hp} : ∀ {bs : List (V × PyData)} {ds : List D}, EachIs (fun (b : V × PyData) d => Has C G b.1 d ∧ b.2 = toP d) bs ds → HasAll C G (bs.map Prod.fst) ds
  | _, _, .nil => .nil
  | _, _, .cons h r => .cons h.1 (has_ea r)
theorem o_sortDt : OpN C (rSortDt C.K) sortDF := by
  intro W σ H G vs ds Q hv q
  obtain ⟨d, e, k, k2, g⟩ := op_done q
  unfold sortDF at e
  split at e
  · rename_i xs
    split at e
    · rename_i hz
      cases e
      rw [Bool.and_eq_true] at hz
      obtain ⟨v, rfl, h1⟩ := hv.one
      cases h1 with
      | @lst a ws _ hs r =>
        refine ⟨_, ws, toPs xs, rfl, .of (g.lst hs), dps_of g r hz.1, hz.2, (lvls_ok 59 _ hz.1).2, fun p n => ?_⟩
        refine k2 p _ n rfl (.lst upd_same (HasAll.mono (.new (g.free n)) ?_))
        rw [toPs_map]
        refine has_ea (sort_each (ea_has r) fun p hp q hq => ?_)
        have hp' := (ea_has r).zip p hp
        have hq' := (ea_has r).zip q hq
        unfold leD
        rw [dataLe_eq, dataLe_eq]
        show cond false _ (!dataLt q.1.2 p.1.2) = cond false _ (!dataLt (toP q.2) (toP p.2))
        rw [hp'.2, hq'.2]
    · cases e
  · cases e
end
/-! the order: one list only -/
theorem leD_total : TotalLe leD := sortLe_total (listOrd itemOrd) false fun d : D => keyToks (toP d)
theorem sort_is {xs us : List D} (p : us.Perm xs) (s : us.Pairwise fun a b => leD a b = true) (anti : ∀ a ∈ us, ∀ b ∈ us, leD a b = true → leD b a = true → a = b) : xs.mergeSort leD = us := by
  have h1 := sort_pairwise leD_total xs
  have h2 : (xs.mergeSort leD).Perm us := (List.mergeSort_perm xs leD).trans p.symm
  generalize xs.mergeSort leD = ys at h1 h2
  clear p
  induction us generalizing ys with
  | nil => exact List.perm_nil.mp h2
  | cons u us ih =>
    cases ys with
    | nil => exact absurd h2.length_eq (by simp)
    | cons y ys =>
      have e : y = u := by
        have m1 : y ∈ u :: us := h2.subset List.mem_cons_self
        have m2 : u ∈ y :: ys := h2.symm.subset List.mem_cons_self
        have l1 : leD u y = true := by
          rcases List.mem_cons.mp m1 with e | m
          · rw [e]; exact leD_total.refl u
          · exact (List.pairwise_cons.mp s).1 y m
        have l2 : leD y u = true := by
          rcases List.mem_cons.mp m2 with e | m
          · rw [e]; exact leD_total.refl y
          · exact (List.pairwise_cons.mp h1).1 u m
        exact anti y m1 u List.mem_cons_self l2 l1
      subst e
      rw [ih (List.pairwise_cons.mp s).2 (fun a ha b hb => anti a (List.mem_cons_of_mem _ ha) b (List.mem_cons_of_mem _ hb)) ys (List.pairwise_cons.mp h1).2 ((List.perm_cons y).mp h2)]
theorem sort_same {xs ys : List D} (p : xs.Perm ys) (anti : ∀ a ∈ xs, ∀ b ∈ xs, leD a b = true → leD b a = true → a = b) : xs.mergeSort leD = ys.mergeSort leD := by
  have m := List.mergeSort_perm ys leD
  refine sort_is (m.trans p.symm) (sort_pairwise leD_total ys) fun a ha b hb => anti a ((m.trans p.symm).subset ha) b ((m.trans p.symm).subset hb)
end DL
end
section
/-! dicts of a slot's own: {}, setdefault; dicts with tuples of ints as keys: get, [], store, list; list(range(n)) to be changed -/
set_option Elab.async false
set_option linter.all false
set_option maxRecDepth 100000
set_option maxHeartbeats 4000000
namespace DL
open PySem PySem.Spec PyProof.Rows L2
/-! ### d.setdefault(k, v), keys ints -/
def tDSetd (td ty tx : TE) : TE := fun σ H Q => td σ H fun x H1 => ∃ a, x = .ref a ∧ IsD H1 a ∧ ty σ H1 fun y H2 => tx σ H2 fun z H3 => ∃ (kvs : List (Key × V)) (k : Key), H3 a = some (.dK kvs) ∧ y = kV k ∧
  (∀ v, valV kvs k = some v → Q v H3) ∧ (valV kvs k = none → kvs.length < sizeLine ∧ Q z (upd H3 a (.dK (putK kvs k z))))
section
variable {X : Cx} {o e f : Expr} {apos cpos : Pos} {td ty tx : TE}
theorem pe_dsetd (ho : PE X o td) (he : PE X e ty) (hf : PE X f tx) (m : M2 X o "setdefault" apos e f cpos) : PE X (.Call (.Attribute o "setdefault" apos) [e, f] [] cpos) (tDSetd td ty tx) := by
  constructor
  intro pins s σ H Q I h
  refine wpAny_Call_method m.base m.few m.line PySem.F.plainAttrs_dict PySem.F.slot_dict_setdefault PySem.F.type_dict_setdefault (thn (ho.run pins s σ H _ I h) fun u s1 hu1 => ?_)
  obtain ⟨x, H1, I1, rx, a, ex, d, q1⟩ := hu1
  subst ex
  cases (show u = Value.ref a from rx)
  have hd3 := isD_at I1 d
  refine ⟨hd3.1, hd3.2.1, ?_⟩
  rw [m.trees]
  refine Calls.callWith_builtin rfl (Calls.evalArgs_plain (Calls.spliced_cons (thn (he.run pins s1 σ H1 _ I1 q1) fun iv s2 h2 => ?_)))
  obtain ⟨y, H2, I2, ry, q2⟩ := h2
  refine Calls.spliced_cons (thn (hf.run pins s2 σ H2 _ I2 q2) fun fv s3 h3 => Calls.spliced_nil ?_)
  obtain ⟨z, H3, I3, rz, kvs, k, ea, ey, w1, w2⟩ := h3
  subst ey
  obtain ⟨zs, hdd, vs0, rel, dd⟩ := dk_of I3.hok ea
  have hz : vs0.length ≤ sizeLine := by rw [← rel.length]; exact zs
  refine call_meetsIn PySem.F.slot_dict_setdefault dd.typeIs PySem.F.entry_dict_setdefault (PySem.F.args_dict_setdefault_3 _ _ _) (kt_meets_setdefault (mixKind X.prog X.w) a (kV_is ry) hdd _) ⟨vs0, dd, hz, fun u hu => ?_, fun hn h' dd' hs => ?_⟩
  · have rr := rel.val k
    rw [hu] at rr
    cases hv : valV kvs k with
    | none => rw [hv] at rr; exact False.elim rr
    | some x =>
      rw [hv] at rr
      exact ⟨x, H3, I3.tok _, rr, w1 x hv⟩
  · have rr := rel.val k
    rw [hn] at rr
    cases hv : valV kvs k with
    | some x => rw [hv] at rr; exact False.elim rr
    | none =>
      have hl2 : (putK kvs k z).length ≤ sizeLine := by have := length_putK kvs k z; have := (w2 hv).1; omega
      exact ⟨z, _, d_write (t' := s3.toks + 1) I3 (by rw [ea]; exact True.intro) hs (let ⟨q, _, _, hq, _⟩ := dd'; ⟨q, hq⟩) (dk_new hl2 hdd (rel.put k rz) dd'), rz, (w2 hv).2⟩
end
/-! ### as rules of the data -/
section
variable {X : Cx} {C : Cf} {W : WX} {pos p apos cpos : Pos} {i : Nat} {x : Str}
theorem df_dnewK : DF X C W Slot.dK (.Dict [] [] pos) (M.pure []) :=
  ⟨PE.weak pe_dnewK fun σ H Q ⟨G, q⟩ => fun p n => by
    obtain ⟨B, G0, a, r, q⟩ := run_pure q
    exact q H G .refl r p _ _ upd_same .nil (r.gh.free n) (r.bh.free n) (r.lone n) (.laid r.gh n)⟩
theorem df_dnewT : DF X C W Slot.dT (.Dict [] [] pos) (M.pure []) :=
  ⟨PE.weak pe_dnewT fun σ H Q ⟨G, q⟩ => fun p n => by
    obtain ⟨B, G0, a, r, q⟩ := run_pure q
    exact q H G .refl r p _ _ upd_same .nil (r.gh.free n) (r.bh.free n) (r.lone n) (.laid r.gh n)⟩
/-- list(range(n)), to be changed -/
def lrO : D → Option (List D)
  | .int j => if (smallI j && sz j.toNat) = true then some (rangeL 0 j.toNat) else none
  | _ => none
theorem df_lrg {a : Expr} {m : M D} {pos2 p2 : Pos} (hc : X.calm = true) (hml : X.mg "list" = none) (hmr : X.mg "range" = none) (ha : DE X C W a m) (hgl : Gl X "list" := by rfl) (hgr : Gl X "range" := by rfl)
    (na : starEach [.Call (.Name "range" p2) [a] [] pos2] X.env = (false, eval (.Call (.Name "range" p2) [a] [] pos2) X.env) :: starEach [] X.env := by rfl)
    (nb : starEach [a] X.env = (false, eval a X.env) :: starEach [] X.env := by rfl) : DF X C W Slot.own (.Call (.Name "list" p) [.Call (.Name "range" p2) [a] [] pos2] [] pos) (m.bind fun d => lft (lrO d)) :=
  ⟨PE.weak (pe_listRg hc hgl hml (prg_1 hgr hmr ha.pe nb) na) fun σ H Q ⟨G, q⟩ => ⟨G, run_imp (run_bind q) fun _ _ H1 G1 d g q v hv => by
    obtain ⟨xs, e, B, G0, a, r, k⟩ := run_lft q
    cases d with
    | int j =>
      obtain ⟨hz, e⟩ := ite_some (show (if (smallI j && sz j.toNat) = true then some (rangeL 0 j.toNat) else none) = some xs from e)
      subst e
      cases hv
      rw [Bool.and_eq_true] at hz
      have hj : -(2 ^ 62) ≤ j ∧ j < 2 ^ 62 := of_decide_eq_true hz.1
      have hz2 : j.toNat ≤ 100000 := of_decide_eq_true hz.2
      exact ⟨j, rfl, ⟨by decide, by decide, hj.1, hj.2, by omega⟩, fun l n => k H1 G1 .refl r l _ _ upd_same (has_rg j) (r.gh.free n) (r.bh.free n) (r.lone n) (.laid r.gh n)⟩
    | _ => cases e⟩⟩
/-- x.setdefault(k, v), x a dict of its own -/
def eSetD (i : Nat) (mk mv : M D) : M D := fun a => match a[i]? with
  | some (.dK _) => (mk.bind fun k => mv.bind fun v a1 => match a1[i]?, k with
    | some (.dK kvs), .int j => (match valD kvs j with
      | some d => R.ok d a1
      | none => if sz (kvs.length + 1) = true then R.ok v (a1.set i (.dK (putD kvs j v))) else .bad)
    | _, _ => .bad) a
  | _ => .bad
theorem de_setd {e f : Expr} {mk mv : M D} (he : DE X C W e mk) (hf : DE X C W f mv) (m : M2 X (.Name x p) "setdefault" apos e f cpos) (hN : X.N[i]? = some x := by rfl) (hv : Vis X.env.scope x := by first | exact Or.inl rfl | exact Or.inr (Or.inl rfl) | exact Or.inr (Or.inr rfl)) (hd : (x == ("__debug__" : Str)) = false := by decide) (hcd : (x == ("__classdict__" : Str)) = false := by decide) :
    DE X C W (.Call (.Attribute (.Name x p) "setdefault" apos) [e, f] [] cpos) (eSetD i mk mv) :=
  ⟨PE.weak (pe_dsetd (pe_var hN hv hd hcd) he.pe hf.pe m) fun σ H Q ⟨G, q⟩ => by
    obtain ⟨B, G0, a, r0, q⟩ := q
    unfold eSetD at q
    cases e0 : a[i]? with
    | none => rw [e0] at q; exact q.elim
    | some s =>
      rw [e0] at q
      cases s with
      | dK ks0 =>
        obtain ⟨p0, o, h1, h2, h3, h4, h5⟩ := r0.slot i _ e0
        cases o with
        | dK vs0 =>
          have q : run C W (mk.bind fun k => mv.bind fun v a1 => match a1[i]?, k with
            | some (.dK kvs), .int j => (match valD kvs j with
              | some d => R.ok d a1
              | none => if sz (kvs.length + 1) = true then R.ok v (a1.set i (.dK (putD kvs j v))) else .bad)
            | _, _ => .bad) σ H G (kD C Q) := ⟨B, G0, a, r0, q⟩
          refine ⟨_, h1, p0, rfl, .inl ⟨vs0, .inl h2⟩, G, run_imp (run_bind q) fun _ _ H1 G1 k g1 q1 w hw => ⟨G1, run_imp (run_bind q1) fun _ _ H2 G2 y g2 q2 u hu => ?_⟩⟩
          obtain ⟨B, G0, a, r1, q2⟩ := q2
          dsimp only at q2
          cases e1 : a[i]? with
          | none => rw [e1] at q2; exact q2.elim
          | some s =>
            rw [e1] at q2
            cases s with
            | dK kvs =>
              obtain ⟨p1, o, w1, w2, w3, w4, w5⟩ := r1.slot i _ e1
              rw [h1] at w1
              cases w1
              cases o with
              | dK vs =>
                cases k with
                | int j =>
                  cases hw
                  dsimp only at q2
                  cases ev : valD kvs j with
                  | some d =>
                    rw [ev] at q2
                    obtain ⟨v', v1, v2⟩ := (w3.val j).1 d ev
                    refine ⟨vs, .inl j, w2, rfl, fun v hv => ?_, fun hn => ?_⟩
                    · rw [v1] at hv
                      cases hv
                      exact q2 H2 G2 .refl r1 _ v2
                    · rw [v1] at hn
                      cases hn
                  | none =>
                    rw [ev] at q2
                    dsimp only at q2
                    by_cases hz : sz (kvs.length + 1) = true
                    · rw [if_pos hz] at q2
                      refine ⟨vs, .inl j, w2, rfl, fun v hv => ?_, fun hn => ⟨by rw [HasKv.len w3]; exact sz_lt hz, ?_⟩⟩
                      · have := (w3.val j).2
                        rw [hv, ev] at this
                        cases this
                      · exact q2 _ G2 .refl (r1.write (o := .dK vs) (o' := .dK (putK vs (.inl j) u)) (t := .dK (putD kvs j y)) e1 rfl h1 (show OwnOk C G2 (.dK (putD kvs j y)) (.dK (putK vs (.inl j) u)) from HasKv.put hu w3)) u hu
                    · rw [if_neg hz] at q2
                      exact q2.elim
                | _ => exact q2.elim
              | _ => exact w3.elim
            | _ => exact q2.elim
        | _ => exact h3.elim
      | _ => exact q.elim⟩
end
end DL
end
section
/-! dicts of a slot's own whose keys are tuples of ints: get, [], store, list -/
set_option Elab.async false
set_option linter.all false
set_option maxRecDepth 100000
set_option maxHeartbeats 4000000
namespace DL
open PySem PySem.Spec PyProof.Rows L2
def valT (kvs : List (List Int × D)) (k : List Int) : Option D := (kvs.find? fun kv => decide (kv.1 = k)).map (·.2)
def putT (kvs : List (List Int × D)) (k : List Int) (d : D) : List (List Int × D) := if (kvs.any fun kv => decide (kv.1 = k)) = true then kvs.map (fun kv => if kv.1 = k then (kv.1, d) else kv) else kvs ++ [(k, d)]
def asW : D → Option (List Int)
  | .tup xs => asIs xs
  | _ => none
theorem kInt_inj {a b : List Int} (h : kInt a = kInt b) : a = b := inl_inj h
theorem kInt_V (w : List Int) : (kInt w).map kV = w.map V.int := by
  unfold kInt
  rw [List.map_map]
  rfl
section
variable {C : Cf} {G : Hp}
theorem HasTv.any (i : List Int) : ∀ {ks : List (List Key × V)} {kvs : List (List Int × D)}, HasTv C G ks kvs → (ks.any fun kv => decide (kv.1 = kInt i)) = kvs.any fun kv => decide (kv.1 = i)
  | _, _, .nil => rfl
  | _, _, .cons (i := j) h r => by
    rw [List.any_cons, List.any_cons, HasTv.any i r]
    congr 1
    by_cases e : j = i
    · simp [e]
    · have e2 : ¬ kInt j = kInt i := fun z => e (kInt_inj z)
      simp [e, e2]
theorem HasTv.mapp (i : List Int) {v : V} {d : D} (hv : Has C G v d) : ∀ {ks : List (List Key × V)} {kvs : List (List Int × D)}, HasTv C G ks kvs → HasTv C G (ks.map fun kv => if kv.1 = kInt i then (kv.1, v) else kv) (kvs.map fun kv => if kv.1 = i then (kv.1, d) else kv)
  | _, _, .nil => .nil
  | _, _, .cons (i := j) h r => by
    rw [List.map_cons, List.map_cons]
    by_cases e : j = i
    · rw [if_pos (by simp [e]), if_pos e]
      exact .cons hv (HasTv.mapp i hv r)
    · rw [if_neg (fun z => e (kInt_inj z)), if_neg e]
      exact .cons h (HasTv.mapp i hv r)
theorem HasTv.app (i : List Int) {v : V} {d : D} (hv : Has C G v d) : ∀ {ks : List (List Key × V)} {kvs : List (List Int × D)}, HasTv C G ks kvs → HasTv C G (ks ++ [(kInt i, v)]) (kvs ++ [(i, d)])
  | _, _, .nil => .cons hv .nil
  | _, _, .cons h r => .cons h (HasTv.app i hv r)
theorem HasTv.put {i : List Int} {v : V} {d : D} (hv : Has C G v d) {ks : List (List Key × V)} {kvs : List (List Int × D)} (h : HasTv C G ks kvs) : HasTv C G (putK ks (kInt i) v) (putT kvs i d) := by
  unfold putK putT
  rw [h.any i]
  split
  · exact h.mapp i hv
  · exact h.app i hv
theorem HasTv.len : ∀ {ks : List (List Key × V)} {kvs : List (List Int × D)}, HasTv C G ks kvs → ks.length = kvs.length
  | _, _, .nil => rfl
  | _, _, .cons _ r => by rw [List.length_cons, List.length_cons, HasTv.len r]
theorem HasTv.val (i : List Int) : ∀ {ks : List (List Key × V)} {kvs : List (List Int × D)}, HasTv C G ks kvs → (∀ d, valT kvs i = some d → ∃ v, valV ks (kInt i) = some v ∧ Has C G v d) ∧ (valV ks (kInt i)).isSome = (valT kvs i).isSome
  | _, _, .nil => ⟨fun d e => (by cases e), rfl⟩
  | _, _, .cons (i := j) (v := v) (vs := vs) (d := d) (ds := ds) h r => by
    obtain ⟨r1, r2⟩ := HasTv.val i r
    by_cases e : j = i
    · subst e
      constructor
      · intro d' e'
        simp [valT] at e'
        subst e'
        exact ⟨v, by simp [valV], h⟩
      · simp [valT, valV]
    · have e2 : ¬ kInt j = kInt i := fun z => e (kInt_inj z)
      have e1 : valV ((kInt j, v) :: vs) (kInt i) = valV vs (kInt i) := valV_neg (p := (kInt j, v)) (r := vs) e2
      constructor
      · intro d' e'
        obtain ⟨v', h1, h2⟩ := r1 d' (by simpa [valT, e] using e')
        exact ⟨v', by rw [e1]; exact h1, h2⟩
      · rw [e1, r2]
        simp [valT, e]
/-- a tuple of ints is a key -/
theorem has_asW {v : V} {d : D} {w : List Int} (h : Has C G v d) (e : asW d = some w) : ∃ b, v = .ref b ∧ G b = some (.tup ((kInt w).map kV)) := by
  unfold asW at e
  split at e
  · cases h with
    | tup hs r =>
      rw [asIs_ok e] at r
      rw [HasAll.ints r] at hs
      exact ⟨_, rfl, by rw [kInt_V]; exact hs.eq⟩
  · cases e
end
section
variable {C : Cf} {B G0 H G : Hp} {a : AS} {σ : DL.St}
/-- a tuple of the heap is frozen -/
theorem Rel.addT (r : Rel C B G0 a σ H G) {b : Addr} {vs : List V} (hb : H b = some (.tup vs)) : ∃ G', Grow C G G' ∧ Rel C B G0 a σ H G' ∧ TupG G' b vs := by
  cases e : G b with
  | some o =>
    have eo : o = .tup vs := by
      cases t : isTag o with
      | false =>
        have := r.gh.sub _ _ e t
        rw [hb] at this
        exact (Option.some.inj this).symm
      | true =>
        obtain ⟨k, gl, _, S, xs, _, h2, _⟩ := r.gh.tag _ _ e t
        rw [hb] at h2
        cases h2
    rw [eo] at e
    exact ⟨G, .refl, r, ⟨e⟩⟩
  | none =>
    have g : Grow C G (upd G b (.tup vs)) := .new e
    refine ⟨upd G b (.tup vs), g, ⟨r.gg.trans g, r.gh.add e hb rfl fun q x _ z => z, r.bh, fun q x h1 hk h2 => ?_, r.len, fun i s hs => (r.slot i s hs).mono g fun q o h1 h2 h3 h4 => ⟨h1, ?_⟩, r.sep⟩, ⟨upd_same⟩⟩
    · have z : q ≠ b := fun z => by
        subst z
        have := r.bh.keep q x h1 (kp_ext hk)
        rw [hb] at this
        cases this
        cases hk
      rw [upd_ne z]
      exact r.new q x h1 hk h2
    · have z : q ≠ b := fun z => by
        subst z
        rw [hb] at h1
        cases h1
        cases h2
      rw [upd_ne z]
      exact h4
theorem Rel.addKeys : ∀ {ks : List (List Key × V)} {kvs : List (List Int × D)} {bs : List Addr} {G : Hp}, HasTv C G ks kvs → IsKeys H ks bs → Rel C B G0 a σ H G → ∃ G', Grow C G G' ∧ Rel C B G0 a σ H G' ∧ HasAll C G' (bs.map V.ref) (kvs.map fun kv => .tup (kv.1.map D.int))
  | _, _, _, G, .nil, .nil, r => ⟨G, .refl, r, .nil⟩
  | _, _, _, G, .cons (i := i) h t, .cons hb tb, r => by
    obtain ⟨G1, g1, r1, h1⟩ := r.addT hb
    obtain ⟨G2, g2, r2, h2⟩ := Rel.addKeys (t.mono g1) tb r1
    refine ⟨G2, g1.trans g2, r2, ?_⟩
    rw [List.map_cons, List.map_cons]
    refine .cons (.tup (vs := i.map V.int) ?_ .of_ints) h2
    have := g2.tupG h1
    rw [show (((kInt i, _) : List Key × V).1.map kV) = i.map V.int from kInt_V i] at this
    exact this
end
section
variable {X : Cx} {C : Cf} {W : WX} {pos p apos cpos : Pos} {i : Nat} {x : Str}
/-- x.get(k, z) -/
def eGetT (i : Nat) (mk mf : M D) : M D := fun a => match a[i]? with
  | some (.dT _) => (mk.bind fun k => mf.bind fun z a1 => match a1[i]?, asW k with
    | some (.dT kvs), some w => R.ok ((valT kvs w).getD z) a1
    | _, _ => .bad) a
  | _ => .bad
theorem de_getT {e f : Expr} {mk mf : M D} (hx : X.A.units + 65 < cLine) (he : DE X C W e mk) (hf : DE X C W f mf) (m : M2 X (.Name x p) "get" apos e f cpos) (hN : X.N[i]? = some x := by rfl) (hv : Vis X.env.scope x := by first | exact Or.inl rfl | exact Or.inr (Or.inl rfl) | exact Or.inr (Or.inr rfl)) (hd : (x == ("__debug__" : Str)) = false := by decide) (hcd : (x == ("__classdict__" : Str)) = false := by decide) :
    DE X C W (.Call (.Attribute (.Name x p) "get" apos) [e, f] [] cpos) (eGetT i mk mf) :=
  ⟨PE.weak (pe_dget2 (by omega) (pe_var hN hv hd hcd) he.pe hf.pe m) fun σ H Q ⟨G, q⟩ => by
    obtain ⟨B, G0, a, r0, q⟩ := q
    unfold eGetT at q
    cases e0 : a[i]? with
    | none => rw [e0] at q; exact q.elim
    | some s =>
      rw [e0] at q
      cases s with
      | dT ks0 =>
        obtain ⟨p0, o, h1, h2, h3, h4, h5⟩ := r0.slot i _ e0
        cases o with
        | dT vs0 =>
          have q : run C W (mk.bind fun k => mf.bind fun z a1 => match a1[i]?, asW k with
            | some (.dT kvs), some w => R.ok ((valT kvs w).getD z) a1
            | _, _ => .bad) σ H G (kD C Q) := ⟨B, G0, a, r0, q⟩
          refine ⟨_, h1, p0, rfl, .inr ⟨vs0, .inl h2⟩, G, run_imp (run_bind q) fun _ _ H1 G1 k g1 q1 w hw => ⟨G1, run_imp (run_bind q1) fun _ _ H2 G2 y g2 q2 u hu => ?_⟩⟩
          obtain ⟨B, G0, a, r1, q2⟩ := q2
          dsimp only at q2
          cases e1 : a[i]? with
          | none => rw [e1] at q2; exact q2.elim
          | some s =>
            rw [e1] at q2
            cases s with
            | dT kvs =>
              obtain ⟨p1, o, w1, w2, w3, w4, w5⟩ := r1.slot i _ e1
              rw [h1] at w1
              cases w1
              cases o with
              | dT vs =>
                cases ek : asW k with
                | none => rw [ek] at q2; exact q2.elim
                | some kw =>
                  rw [ek] at q2
                  dsimp only at q2
                  obtain ⟨b, rfl, hb⟩ := has_asW (hw.mono g2) ek
                  refine ⟨_, .inr ⟨vs, kInt kw, b, .inl w2, rfl, r1.gh.sub _ _ hb rfl, rfl⟩, ?_⟩
                  cases ev : valT kvs kw with
                  | some d =>
                    obtain ⟨v', v1, v2⟩ := (w3.val kw).1 d ev
                    rw [v1]
                    exact q2 H2 G2 .refl r1 v' (by rw [ev]; exact v2)
                  | none =>
                    have hn := (w3.val kw).2
                    rw [ev] at hn
                    cases hv3 : valV vs (kInt kw) with
                    | some v' => rw [hv3] at hn; cases hn
                    | none => exact q2 H2 G2 .refl r1 u (by rw [ev]; exact hu)
              | _ => exact w3.elim
            | _ => exact q2.elim
        | _ => exact h3.elim
      | _ => exact q.elim⟩
/-- x[k] -/
def eIxT (i : Nat) (mk : M D) : M D := fun a => match a[i]? with
  | some (.dT _) => (mk.bind fun k a1 => match a1[i]?, asW k with
    | some (.dT kvs), some w => (match valT kvs w with
      | some d => R.ok d a1
      | none => .bad)
    | _, _ => .bad) a
  | _ => .bad
theorem de_ixT {e : Expr} {mk : M D} (hx : X.A.units + 65 < cLine) (he : DE X C W e mk) (hN : X.N[i]? = some x := by rfl) (hv : Vis X.env.scope x := by first | exact Or.inl rfl | exact Or.inr (Or.inl rfl) | exact Or.inr (Or.inr rfl)) (hd : (x == ("__debug__" : Str)) = false := by decide) (hcd : (x == ("__classdict__" : Str)) = false := by decide) (hs : NoSl e := by exact fun _ _ => rfl) :
    DE X C W (.Subscript (.Name x p) e pos) (eIxT i mk) :=
  ⟨PE.weak (pe_dget (by omega) (pe_var hN hv hd hcd) he.pe hs) fun σ H Q ⟨G, q⟩ => by
    obtain ⟨B, G0, a, r0, q⟩ := q
    unfold eIxT at q
    cases e0 : a[i]? with
    | none => rw [e0] at q; exact q.elim
    | some s =>
      rw [e0] at q
      cases s with
      | dT ks0 =>
        obtain ⟨p0, o, h1, h2, h3, h4, h5⟩ := r0.slot i _ e0
        have q : run C W (mk.bind fun k a1 => match a1[i]?, asW k with
            | some (.dT kvs), some w => (match valT kvs w with
              | some d => R.ok d a1
              | none => .bad)
            | _, _ => .bad) σ H G (kD C Q) := ⟨B, G0, a, r0, q⟩
        refine ⟨_, h1, G, run_imp (run_bind q) fun _ _ H1 G1 k g1 q1 w hw => ?_⟩
        obtain ⟨B, G0, a, r1, q2⟩ := q1
        dsimp only at q2
        cases e1 : a[i]? with
        | none => rw [e1] at q2; exact q2.elim
        | some s =>
          rw [e1] at q2
          cases s with
          | dT kvs =>
            obtain ⟨p1, o, w1, w2, w3, w4, w5⟩ := r1.slot i _ e1
            rw [h1] at w1
            cases w1
            cases o with
            | dT vs =>
              cases ek : asW k with
              | none => rw [ek] at q2; exact q2.elim
              | some kw =>
                rw [ek] at q2
                dsimp only at q2
                obtain ⟨b, rfl, hb⟩ := has_asW hw ek
                cases ev : valT kvs kw with
                | none => rw [ev] at q2; exact q2.elim
                | some d =>
                  rw [ev] at q2
                  obtain ⟨v', v1, v2⟩ := (w3.val kw).1 d ev
                  exact ⟨p0, v', rfl, .inr ⟨vs, kInt kw, b, .inl w2, rfl, r1.gh.sub _ _ hb rfl, v1.symm⟩, q2 H1 G1 .refl r1 _ v2⟩
            | _ => exact w3.elim
          | _ => exact q2.elim
      | _ => exact q.elim⟩
/-- x[k] = v -/
def ePutT (i : Nat) (mv mk : M D) : M D := fun a => match a[i]? with
  | some (.dT _) => (mv.bind fun v => mk.bind fun k a1 => match a1[i]?, asW k with
    | some (.dT kvs), some w => if sz (kvs.length + 1) = true then R.ok .non (a1.set i (.dT (putT kvs w v))) else .bad
    | _, _ => .bad) a
  | _ => .bad
theorem d_putT {e : Expr} {k : Expr} {mv mk : M D} (hx : X.A.units + 65 < cLine) (hval : DE X C W e mv) (hk : DE X C W k mk) (hN : X.N[i]? = some x := by rfl) (hv : Vis X.env.scope x := by first | exact Or.inl rfl | exact Or.inr (Or.inl rfl) | exact Or.inr (Or.inr rfl)) (hd : (x == ("__debug__" : Str)) = false := by decide) (hcd : (x == ("__classdict__" : Str)) = false := by decide)
    (hs : swapsWith e (some (.Subscript (.Name x p) k apos)) pos.line X.env = pure false := by rfl) : DS X C W (.Assign [.Subscript (.Name x p) k apos] e pos) (sDrop (ePutT i mv mk)) :=
  ⟨PS.weak (ps_dput (by omega) (pe_var hN hv hd hcd) hk.pe hval.pe hs) fun Dn σ H ⟨G, q⟩ => by
    have q : run C W (ePutT i mv mk) σ H G (fun _ _ H' _ _ => Dn.nx σ H') := run_imp (srun_bind q) fun _ _ H1 G1 d g ⟨B, G0, a, r, q⟩ => q σ H1 G1 .refl r
    obtain ⟨B, G0, a, r0, q⟩ := q
    unfold ePutT at q
    cases e0 : a[i]? with
    | none => rw [e0] at q; exact q.elim
    | some s =>
      rw [e0] at q
      cases s with
      | dT ks0 =>
        obtain ⟨p0, o, h1, h2, h3, h4, h5⟩ := r0.slot i _ e0
        have q : run C W (mv.bind fun v => mk.bind fun k a1 => match a1[i]?, asW k with
            | some (.dT kvs), some w => if sz (kvs.length + 1) = true then R.ok D.non (a1.set i (.dT (putT kvs w v))) else .bad
            | _, _ => .bad) σ H G (fun _ _ H' _ _ => Dn.nx σ H') := ⟨B, G0, a, r0, q⟩
        refine ⟨G, run_imp (run_bind q) fun _ _ H1 G1 v g1 q1 w hw => ⟨_, h1, G1, run_imp (run_bind q1) fun _ _ H2 G2 y g2 q2 u hu => ?_⟩⟩
        obtain ⟨B, G0, a, r1, q2⟩ := q2
        dsimp only at q2
        cases e1 : a[i]? with
        | none => rw [e1] at q2; exact q2.elim
        | some s =>
          rw [e1] at q2
          cases s with
          | dT kvs =>
            obtain ⟨p1, o, w1, w2, w3, w4, w5⟩ := r1.slot i _ e1
            rw [h1] at w1
            cases w1
            cases o with
            | dT vs =>
              cases ek : asW y with
              | none => rw [ek] at q2; exact q2.elim
              | some kw =>
                rw [ek] at q2
                dsimp only at q2
                obtain ⟨b, rfl, hb⟩ := has_asW hu ek
                by_cases hz : sz (kvs.length + 1) = true
                · rw [if_pos hz] at q2
                  exact ⟨p0, _, rfl, .inr ⟨vs, kInt kw, b, w2, rfl, r1.gh.sub _ _ hb rfl, by rw [HasTv.len w3]; exact sz_lt hz, rfl⟩, q2 _ G2 .refl (r1.write (o := .dT vs) (o' := .dT (putK vs (kInt kw) w)) (t := .dT (putT kvs kw v)) e1 rfl h1 (show OwnOk C G2 (.dT (putT kvs kw v)) (.dT (putK vs (kInt kw) w)) from HasTv.put (hw.mono g2) w3))⟩
                · rw [if_neg hz] at q2
                  exact q2.elim
            | _ => exact w3.elim
          | _ => exact q2.elim
      | _ => exact q.elim⟩
/-- list(x) -/
def eListT (i : Nat) : M D := fun a => match a[i]? with
  | some (.dT kvs) => .ok (.lst (kvs.map fun kv => .tup (kv.1.map D.int))) a
  | _ => .bad
theorem d_listT (i : Nat) (hc : X.calm = true) (hm : X.mg "list" = none) (hN : X.N[i]? = some x := by rfl) (hv : Vis X.env.scope x := by first | exact Or.inl rfl | exact Or.inr (Or.inl rfl) | exact Or.inr (Or.inr rfl)) (hg : Gl X "list" := by rfl) (hd : (x == ("__debug__" : Str)) = false := by decide)
    (hcd : (x == ("__classdict__" : Str)) = false := by decide) (he : starEach [.Name x pos] X.env = (false, eval (.Name x pos) X.env) :: starEach [] X.env := by rfl) (hpl : (backTo cpos (starEach [] X.env)).any (·.1) = false := by rfl) : DE X C W (.Call (.Name "list" p) [.Name x pos] [] cpos) (eListT i) :=
  ⟨PE.weak (pe_callTy (call_list_dT hc) hg hm (by decide +kernel) (pa_cons (pe_var hN hv hd hcd) pa_nil he) (by decide) (by decide) he hpl) fun σ H Q ⟨G, q⟩ => by
    obtain ⟨B, G0, a, r, h⟩ := q
    unfold eListT at h
    cases e : a[i]? with
    | none => rw [e] at h; exact h.elim
    | some sl =>
      rw [e] at h
      cases sl with
      | dT kvs =>
        obtain ⟨pp, o, e1, e2, e3, e4, e5⟩ := r.slot i _ e
        cases o with
        | dT ks =>
          refine ⟨_, e1, _, ks, rfl, .of e2, fun l bs n hb => ?_⟩
          obtain ⟨G', g, r', hh⟩ := Rel.addKeys e3 hb r
          have g2 : Grow C G' (upd G' l (.lst (bs.map V.ref))) := .new (r'.gh.free n)
          exact h _ _ (g.trans g2) (r'.alloc n) _ (.lst upd_same (hh.mono g2))
        | _ => exact e3.elim
      | _ => exact h.elim⟩
end
end DL
end
section
/-! list(dict(pairs)), the keys tuples of ints: each key once, in first order -/
set_option Elab.async false
set_option linter.all false
set_option maxRecDepth 100000
set_option maxHeartbeats 4000000
namespace DL
open PySem PySem.Spec PyProof.Rows L2
/-- the table behind pairs -/
def foldV (kvs more : List (List Key × V)) : List (List Key × V) := more.foldl (fun acc kv => putK acc kv.1 kv.2) kvs
def foldT (kvs more : List (List Int × D)) : List (List Int × D) := more.foldl (fun acc kv => putT acc kv.1 kv.2) kvs
theorem foldV_len : ∀ (more kvs : List (List Key × V)), (foldV kvs more).length ≤ kvs.length + more.length
  | [], _ => Nat.le_refl _
  | p :: r, kvs => by
    have h := foldV_len r (putK kvs p.1 p.2)
    have h1 := length_putK kvs p.1 p.2
    show (foldV (putK kvs p.1 p.2) r).length ≤ kvs.length + (r.length + 1)
    omega
theorem kt_fold {H : Hp} : ∀ {more : List (List Key × V)} {rs : List (List Key × Addr × Value)} {kvs : List (List Key × V)} {xs : List (List Key × Addr × Value)}, KT H more rs → KT H kvs xs → KT H (foldV kvs more) (storedAllH xs rs)
  | [], _, _, _, .nil, r => r
  | _ :: _, _, _, _, .cons h t, r => by
    obtain ⟨h1, h2, h3⟩ := h
    have q := r.put _ h2 h3
    rw [h1] at q
    have z := kt_fold t q
    unfold foldV storedAllH at z ⊢
    rw [List.foldl_cons, List.foldl_cons, h1]
    exact z
theorem HasTv.fold {C : Cf} {G : Hp} : ∀ {more : List (List Key × V)} {rs : List (List Int × D)} {kvs : List (List Key × V)} {xs : List (List Int × D)}, HasTv C G more rs → HasTv C G kvs xs → HasTv C G (foldV kvs more) (foldT xs rs)
  | _, _, _, _, .nil, r => r
  | _, _, _, _, .cons h t, r => t.fold (r.put h)
section
variable {X : Cx}
/-- the items of a list of pairs whose first is a tuple -/
abbrev PT (H : Hp) : List (Addr × Addr) → List (List Key × V) → Prop := Paired fun q kv => H q.1 = some (.tup [.ref q.2, kv.2]) ∧ H q.2 = some (.tup (kv.1.map kV))
theorem rows_of {pins : List (Addr × Obj)} {σ : St} {H : Hp} {s : Shared} (I : Inv X pins σ H s) : ∀ {ps : List (Addr × Addr)} {kvs : List (List Key × V)}, PT H ps kvs →
    ∃ xs : List (List Key × Addr × Value), KT H kvs xs ∧ xs.length = ps.length ∧ ∀ (j : Nat) (x : List Key × Addr × Value), xs[j]? = some x → ∃ b, ps[j]? = some (b, x.2.1) ∧ IsTup s.heap b #[.ref x.2.1, x.2.2] ∧ H x.2.1 = some (.tup (x.1.map kV))
  | _, _, .nil => ⟨[], .nil, rfl, fun j q e => by simp at e⟩
  | _, _, .cons (a := p) (b := kv) h t => by
    obtain ⟨xs, r, hl, hp⟩ := rows_of I t
    obtain ⟨h1, h2⟩ := h
    obtain ⟨its, rv, ht, _⟩ := I.tuple (SqT.of h1)
    obtain ⟨u, y, ei, ru, ry⟩ := vals2 rv
    subst ei
    cases ru
    refine ⟨(kv.1, p.2, y) :: xs, .cons ⟨rfl, h2, ry⟩ r, by rw [List.length_cons, List.length_cons, hl], fun j q e => ?_⟩
    cases j with
    | zero =>
      have e' : (kv.1, p.2, y) = q := Option.some.inj e
      subst e'
      exact ⟨p.1, rfl, ht, h2⟩
    | succ j =>
      obtain ⟨b, e1, e2, e3⟩ := hp j q (by simpa using e)
      exact ⟨b, by simpa using e1, e2, e3⟩
theorem call_dictPT (hcalm : X.calm = true) (hu : X.A.units + 65 < cLine) : CallR X (.type "dict") (fun xs H Q => ∃ (a : Addr) (ps : List (Addr × Addr)) (kvs : List (List Key × V)), xs = [.ref a] ∧ SqL X.K H a (ps.map fun q => V.ref q.1) ∧ PT H ps kvs ∧
    ∀ p, H p = none → Q (.ref p) (upd H p (.dT (foldV [] kvs)))) := by
  intro pins s σ H xs us Q I r q
  obtain ⟨a, ps, kvs, ex, hq, hp, q⟩ := q
  subst ex
  obtain ⟨u, eu, rx⟩ := vals1 r
  subst eu
  cases rx
  obtain ⟨its, rv, pl, hz⟩ := I.list hq
  have ei : its = (ps.map Prod.fst).map Value.ref := refs_at (by rw [List.map_map]; exact rv)
  subst ei
  rw [List.length_map] at hz
  obtain ⟨rs, rel, hl, hpr⟩ := rows_of I hp
  have item : ∀ (j : Nat) (k v : Value), (rs.map fun x => (Value.ref x.2.1, x.2.2))[j]? = some (k, v) → ∃ x, rs[j]? = some x ∧ k = .ref x.2.1 ∧ v = x.2.2 := by
    intro j k v e
    rw [List.getElem?_map] at e
    cases ej : rs[j]? with
    | none => rw [ej] at e; cases e
    | some x => rw [ej] at e; cases e; exact ⟨x, rfl, rfl, rfl⟩
  have ok : PlainSeq "list" s.heap a ((ps.map Prod.fst).map Value.ref).toArray ∧ PairItems s.heap ((ps.map Prod.fst).map Value.ref).toArray (fun j => (ps[j]?.map Prod.fst).getD 0) (rs.map fun x => (Value.ref x.2.1, x.2.2)) := by
    obtain ⟨o, n, ho, hc, hd, hdat⟩ := pl
    refine ⟨⟨o, n, ho, hc, hd, hdat⟩, by simp [hl], fun j k v e => ?_⟩
    obtain ⟨x, ex, rfl, rfl⟩ := item j k v e
    obtain ⟨b, e1, e2, _⟩ := hpr j x ex
    obtain ⟨o, h1, h2, n, h3⟩ := e2
    refine ⟨by simp [e1], .inl ?_⟩
    show IsTup s.heap ((ps[j]?.map Prod.fst).getD 0) _
    rw [e1]
    exact ⟨o, h1, h2, n, h3⟩
  refine call_dict_pairsH (knd := tupleKind (mixKind X.prog X.w)) (ps := rs) (PairArg.list a _ _ _) (I.ok.hd hcalm) (tupleKind_room_in1 (show X.A.in1.units + 1 < cLine from by show X.A.units + 1 + 1 < cLine; omega)) ok ⟨by simp, fun i k v e => ?_⟩ (fun h' hk x hx => ?_) (by rw [List.length_map, hl]; exact hz) fun h' tk hd' hk => ?_
  · obtain ⟨x, ex, rfl, rfl⟩ := item i k v e
    exact ⟨x.1, x.2.1, ex, rfl⟩
  · obtain ⟨j, hj⟩ := List.getElem?_of_mem hx
    obtain ⟨b, _, _, hH⟩ := hpr j x hj
    obtain ⟨o, its, n, h1, h2, h3, h4⟩ := key_of I.hok hH
    exact ⟨o, its, n, hk _ _ (Nat.ne_of_lt (Heap.lt_size h1)) (by simp) h1, h2, h3, h4⟩
  · have hm : (s.heap.objs.size == sysModules) = false := beq_eq_false_iff_ne.mpr (Nat.ne_of_gt I.big)
    have hlen : (foldV [] kvs).length ≤ sizeLine := by
      refine Nat.le_trans (foldV_len kvs []) ?_
      rw [List.length_nil, Nat.zero_add, Paired.length rel, hl]
      exact hz
    have hn : H s.heap.objs.size = none := I.hok.fresh (Nat.le_refl _)
    obtain ⟨o, es, ep, ho, h2, h3, h4, _, h5⟩ := hd'
    refine ⟨.ref s.heap.objs.size, upd H s.heap.objs.size (.dT (foldV [] kvs)), I.laid (t' := tk) (fun b u e => hk b u (by simp) e) (Nat.le_refl _) ⟨hlen, hm, storedAllH [] rs, (kt_fold rel .nil).keeps fun c ys ec => ?_, o, es, ep, ho, h2, h3, h4, h5⟩, rfl, q _ hn⟩
    rw [upd_ne (ne_of_none ec hn)]
    exact ec
end
def asPT : List D → Option (List (List Int × D))
  | [] => some []
  | .tup [.tup w, x] :: r => match asIs w, asPT r with
    | some w, some r => some ((w, x) :: r)
    | _, _ => none
  | _ :: _ => none
theorem asPT_cons {w : List Int} {x : D} {r : List D} {r' : List (List Int × D)} (h : asPT r = some r') : asPT (.tup [.tup (w.map D.int), x] :: r) = some ((w, x) :: r') := by
  unfold asPT
  rw [asIs_map, h]
theorem has_pt {C : Cf} {G : Hp} : ∀ {vs : List V} {ds : List D} {kvs : List (List Int × D)}, HasAll C G vs ds → asPT ds = some kvs →
    ∃ (ps : List (Addr × Addr)) (ks : List (List Key × V)), vs = ps.map (fun q => V.ref q.1) ∧ PT G ps ks ∧ HasTv C G ks kvs
  | _, _, _, .nil, e => by
    cases e
    exact ⟨[], [], rfl, .nil, .nil⟩
  | _, _, _, .cons (d := d) (ds := ds) h t, e => by
    unfold asPT at e
    split at e
    · rename_i h0; cases h0
    · rename_i w x r h0
      cases h0
      cases ew : asIs w with
      | none => rw [ew] at e; cases e
      | some i =>
        cases er : asPT ds with
        | none => rw [ew, er] at e; cases e
        | some ks' =>
          rw [ew, er] at e
          cases e
          obtain ⟨ps, ks, rfl, hp, hv⟩ := has_pt t er
          cases h with
          | tup rt hs =>
            cases hs with
            | cons hw hr =>
              cases hr with
              | cons hx hn =>
                cases hn
                obtain ⟨b, rfl, hb⟩ := has_asW (d := .tup w) (w := i) hw (by unfold asW; exact ew)
                exact ⟨(_, b) :: ps, (kInt i, _) :: ks, rfl, .cons ⟨rt.eq, hb⟩ hp, .cons hx hv⟩
    · cases e
section
variable {X : Cx} {C : Cf} {W : WX} {p p2 pos cpos cpos2 : Pos}
def keysF : D → Option D
  | .lst ds => (asPT ds).map fun kvs => .lst ((foldT [] kvs).map fun kv => .tup (kv.1.map D.int))
  | _ => none
theorem de_keys {e : Expr} {m : M D} (hx : X.A.units + 65 < cLine) (hc : X.calm = true) (m1 : X.mg "list" = none) (m2 : X.mg "dict" = none) (he0 : DE X C W e m)
    (hg1 : Gl X "list" := by rfl) (hg2 : Gl X "dict" := by rfl)
    (he2 : starEach [e] X.env = (false, eval e X.env) :: starEach [] X.env := by rfl)
    (he : starEach [.Call (.Name "dict" p2) [e] [] cpos2] X.env = (false, eval (.Call (.Name "dict" p2) [e] [] cpos2) X.env) :: starEach [] X.env := by rfl)
    (hpl : (backTo cpos2 (starEach [] X.env)).any (·.1) = false := by rfl)
    (hpl1 : (backTo cpos (starEach [] X.env)).any (·.1) = false := by rfl) :
    DE X C W (.Call (.Name "list" p) [.Call (.Name "dict" p2) [e] [] cpos2] [] cpos) (e1 keysF m) :=
  ⟨PE.weak (pe_callTy (call_list_dT hc) hg1 m1 (by decide +kernel) (pa_cons (pe_callTy (call_dictPT hc hx) hg2 m2 (by decide +kernel) (pa_cons he0.pe pa_nil he2) (by decide) (by decide) he2 hpl) pa_nil he) (by decide) (by decide) he hpl1) fun σ H Q ⟨G, q⟩ => by
    refine ⟨G, run_imp (run_bind q) fun _ _ H1 G1 x g1 q1 v hv => ?_⟩
    obtain ⟨y, ey, B, G0, a, r, k⟩ := run_lft q1
    unfold keysF at ey
    cases x with
    | lst ds =>
      dsimp only at ey
      cases ek : asPT ds with
      | none => rw [ek] at ey; cases ey
      | some kvs =>
        rw [ek] at ey
        cases ey
        cases hv with
        | @lst l ws _ hl hw =>
          obtain ⟨ps, ks, rfl, hp, ht⟩ := has_pt hw ek
          have hs : ∀ {b : Addr} {u : List V}, G1 b = some (.tup u) → H1 b = some (.tup u) := fun z => r.gh.sub _ _ z rfl
          refine ⟨l, ps, ks, rfl, .of (r.gh.lst hl), Paired.mapP hp fun _ _ z => ⟨hs z.1, hs z.2⟩, fun d n => ?_⟩
          have r2 := r.ext (Ext.laid (o := .dT (foldV [] ks)) r.gh n)
          refine ⟨d, foldV [] ks, rfl, .of upd_same, fun pp bs nn hb => ?_⟩
          obtain ⟨G', g, r', hh⟩ := Rel.addKeys (HasTv.fold ht .nil) hb r2
          have g2 : Grow C G' (upd G' pp (.lst (bs.map V.ref))) := .new (r'.gh.free nn)
          exact k _ _ (g.trans g2) (r'.alloc nn) _ (.lst upd_same (hh.mono g2))
    | _ => cases ey⟩
end
end DL
end
section
/-! x not in a list of a slot's own -/
set_option Elab.async false
set_option linter.all false
set_option maxRecDepth 100000
set_option maxHeartbeats 4000000
namespace DL
open PySem PySem.Spec PyProof.Rows L2
section
variable {X : Cx} {C : Cf} {W : WX} {p pos : Pos} {x : Str}
theorem dt_ninO (i : Nat) {e : Expr} {m : M D} (hK : X.K = C.K) (hu : X.A.units + 65 < cLine) (h : DE X C W e m) (hN : X.N[i]? = some x := by rfl) (hv : Vis X.env.scope x := by first | exact Or.inl rfl | exact Or.inr (Or.inl rfl) | exact Or.inr (Or.inr rfl)) (hd : (x == ("__debug__" : Str)) = false := by decide)
    (hcd : (x == ("__classdict__" : Str)) = false := by decide) : DT X C W (.Compare e [.NotIn] [.Name x p] pos) (mB (m.bind fun d => look i fun l => ninF d l)) :=
  ⟨PT.weak (pt_cmpR (op_ninX hu) h.pe (pe_var hN hv hd hcd) (by rfl)) fun σ H Q ⟨G, q⟩ => by
    refine ⟨G, run_imp (run_bind (run_asB q)) fun _ _ H1 G1 d g q u hu => ?_⟩
    obtain ⟨v, l, z, h1, h2, h3, gs, B, a, G0, r, k⟩ := run_look q
    refine ⟨v, h1, ?_⟩
    rw [hK]
    obtain ⟨b, rfl, B', G0', a', r', kk⟩ := k H1 G1 .refl r
    cases l with
    | lst xs =>
      obtain ⟨c, ws, rfl, hp, rr⟩ := h2.lst gs
      obtain ⟨e1, e2⟩ := ite_some h3
      rw [Bool.and_eq_true] at e1
      cases e2
      exact .inl ⟨_, _, dp_of gs hu e1.1, .lst (.of hp) (dps_of gs rr e1.2), lvl_shaped e1.1, lvls_shaped e1.2, ⟨_, rfl, kk H1 G1 .refl r'⟩⟩
    | _ => cases h3⟩
end
end DL
end
section
/-! x.count(e), of any data -/
set_option Elab.async false
set_option linter.all false
set_option maxRecDepth 100000
set_option maxHeartbeats 4000000
namespace DL
open PySem PySem.Spec PyProof.Rows L2
def rCountD (K : PySem.W.Frag) : V → List V → Hp → VK → Prop := fun x xs H Q => ∃ (a : Addr) (y : V) (d : PyData) (ds : List PyData), x = V.ref a ∧ xs = [y] ∧ Dp K H (V.ref a) (.list ds) ∧ Dp K H y d ∧
  SeqAt.shaped (.list ds) = true ∧ SeqAt.shaped d = true ∧ Q (.int (ds.countP (fun z => PyData.eqv z d) : Nat)) H
section
variable {X : Cx}
theorem mt_countD (hu : X.A.units + 65 < cLine) : MtR X "list.count" (rCountD X.K) := by
  intro pins s σ H x xs v us Q I rx rxs h
  obtain ⟨a, y, d, ds, rfl, rfl, hl, hy, sl, sd, q⟩ := h
  cases rx
  obtain ⟨u, rfl, ru⟩ := rxs.one
  obtain ⟨bs, r1⟩ := Dp.reads I d y u hy ru
  have hxs : PyData.canLayAll0 ds = true := SeqAt.canLay_of_shaped sl
  have hroom : X.A.units + 1 + min (PyData.depthAll ds) d.depth < cLine := room_in_shaped sd hu
  cases hl with
  | lst hs ha =>
    obtain ⟨its, rv, ⟨⟨cls, dd, data, sls⟩, n, ho, hc, hdn, hdt⟩, hlen⟩ := I.list hs
    simp only at hc hdt
    subst hc hdt
    obtain ⟨as, h4⟩ := Dp.readsAll I ds _ its ha rv
    have hmap : its.map (SeqAt.readOf s.heap) = ds := SeqAt.readsAll_map ds its as hxs h4
    refine call_meets PySem.F.slot_list_count ⟨_, ho, rfl⟩ PySem.F.entry_list_count (PySem.F.args_list_count_2 _ _)
      (SeqAt.list_countAt a its.toArray n dd sls u (fun z => PyData.eqv (SeqAt.readOf s.heap z) d)) ⟨ho, SeqAt.items_eqAt (vs := its.toArray) (show ReadsAll s.heap its.toArray.toList ds as from h4) r1 hxs (SeqAt.canLay_of_shaped sd) hroom, ?_⟩
    have ec : its.toArray.toList.countP (fun z => PyData.eqv (SeqAt.readOf s.heap z) d) = ds.countP fun z => PyData.eqv z d := by
      rw [← hmap, List.countP_map]
      rfl
    refine ⟨.int (ds.countP (fun z => PyData.eqv z d) : Nat), H, I.tok _, ⟨s.toks, ?_⟩, q⟩
    rw [ec]
end
section
variable {C : Cf}
def countX (d : D) (ds : List D) : Option D := match d, ds with
  | .lst xs, [e] => if (lvl 60 e && lvls 59 xs) = true then some (.int (xs.countP fun x => eqd x e : Nat)) else none
  | _, _ => none
theorem o_countD : OpM C (rCountD C.K) countX := by
  intro W σ H G x dx ws ds Q hx hw q
  obtain ⟨d, e, k, _, g⟩ := op_done q
  unfold countX at e
  split at e
  · obtain ⟨h, e2⟩ := ite_some e
    rw [Bool.and_eq_true] at h
    subst e2
    obtain ⟨w, rfl, hy⟩ := hw.one
    cases hx with
    | @lst a vs xs hs rr =>
      refine ⟨_, w, _, _, rfl, rfl, .lst (.of (g.lst hs)) (dps_of g rr h.2), dp_of g hy h.1, lvls_shaped h.2, lvl_shaped h.1, ?_⟩
      rw [toPs_map, List.countP_map]
      exact k _ (.int _)
  · cases e
end
end DL
end
section
/-! texts: str(number), int(text), join, split, a sign in a text -/
set_option Elab.async false
set_option linter.all false
set_option maxRecDepth 100000
set_option maxHeartbeats 4000000
namespace DL
open PySem PySem.Spec PyProof.Rows L2
def asSt : List D → Option (List Str)
  | [] => some []
  | .str z :: r => (asSt r).map (z :: ·)
  | _ :: _ => none
theorem asSt_ok : ∀ {ds : List D} {zs : List Str}, asSt ds = some zs → ds = zs.map D.str
  | [], _, h => by cases h; rfl
  | d :: r, zs, h => by
    unfold asSt at h
    split at h
    · rename_i h0; cases h0
    · rename_i z r' h0
      cases h0
      obtain ⟨ms, e, rfl⟩ := Option.map_eq_some_iff.mp h
      rw [List.map_cons, asSt_ok e]
    · cases h
theorem asSt_map : ∀ zs : List Str, asSt (zs.map D.str) = some zs
  | [] => rfl
  | z :: zs => by
    rw [List.map_cons]
    show (asSt (zs.map D.str)).map (z :: ·) = _
    rw [asSt_map zs]
    rfl
section
variable {C : Cf} {G : Hp}
theorem HasAll.strs : ∀ {vs : List V} {zs : List Str}, HasAll C G vs (zs.map D.str) → vs = zs.map V.str
  | _, [], .nil => rfl
  | _, z :: zs, .cons h r => by
    cases h
    rw [List.map_cons, HasAll.strs r]
theorem HasAll.of_strs : ∀ {zs : List Str}, HasAll C G (zs.map V.str) (zs.map D.str)
  | [] => .nil
  | z :: zs => .cons (.str z) HasAll.of_strs
end
/-! str(n), int(z) -/
def rStrN : List V → Hp → VK → Prop := fun vs H Q => ∃ n : Int, vs = [.int n] ∧ n.natAbs.log2 < 1920 ∧ Q (.str (toString n)) H
theorem cr_strN {X : Cx} : CallR X (.type "str") rStrN := fun pins s σ H vs us Q I r h => call_str_int pins s σ H vs us Q I r h
def rIntS : List V → Hp → VK → Prop := fun vs H Q => ∃ (z : Str) (n : Int), vs = [.str z] ∧ PySem.intText? z = some n ∧ z.length ≤ 640 ∧ Q (.int n) H
theorem cr_intS {X : Cx} : CallR X (.type "int") rIntS := fun pins s σ H vs us Q I r h => call_int_str pins s σ H vs us Q I r h
def strNF : List D → Option D
  | [.int n] => if decide (n.natAbs.log2 < 1920) = true then some (.str (toString n)) else none
  | _ => none
def intSF : List D → Option D
  | [.str z] => if decide (z.length ≤ 640) = true then (PySem.intText? z).map D.int else none
  | _ => none
section
variable {C : Cf}
theorem o_strN : OpN C rStrN strNF := by
  intro W σ H G vs ds Q hv q
  obtain ⟨d, e, k, _, g⟩ := op_done q
  unfold strNF at e
  split at e
  · obtain ⟨h, e2⟩ := ite_some e
    subst e2
    obtain ⟨v, rfl, h1⟩ := hv.one
    cases h1
    exact ⟨_, rfl, of_decide_eq_true h, k _ (.str _)⟩
  · cases e
theorem o_intS : OpN C rIntS intSF := by
  intro W σ H G vs ds Q hv q
  obtain ⟨d, e, k, _, g⟩ := op_done q
  unfold intSF at e
  split at e
  · split at e
    · rename_i h
      obtain ⟨n, e1, rfl⟩ := Option.map_eq_some_iff.mp e
      obtain ⟨v, rfl, h1⟩ := hv.one
      cases h1
      exact ⟨_, _, rfl, e1, of_decide_eq_true h, k _ (.int _)⟩
    · cases e
  · cases e
end
/-! z.join(list), z.split(y) -/
def rJoin (K : PySem.W.Frag) : V → List V → Hp → VK → Prop := fun x vs H Q => ∃ (z : Str) (p : Addr) (zs : List Str), x = .str z ∧ vs = [.ref p] ∧ SqL K H p (zs.map V.str) ∧ (zs.map (·.length)).sum + zs.length * z.length ≤ 16777216 ∧ Q (.str (Txt.join z zs)) H
theorem mt_joinL {X : Cx} : MtR X "str.join" (rJoin X.K) := fun pins s σ H x vs v us Q I rx rs ⟨z, p, zs, h1, h2, h3, h4, h5⟩ => mt_join pins s σ H x vs v us Q I rx rs ⟨z, p, zs, h1, h2, .inl h3, h4, h5⟩
def rSplit : V → List V → Hp → VK → Prop := fun x vs H Q => ∃ z y : Str, x = .str z ∧ vs = [.str y] ∧ (y.length == 0) = false ∧ z.length + 2 ≤ sizeLine ∧ ∀ p, H p = none → Q (.ref p) (upd H p (.lst ((Txt.split z y).map V.str)))
theorem mt_splitS {X : Cx} : MtR X "str.split" rSplit := fun pins s σ H x vs v us Q I rx rs ⟨z, y, h1, h2, h3, h4, h5⟩ => mt_split pins s σ H x vs v us Q I rx rs ⟨z, y, h1, h2, h3, h4, h5⟩
def joinF (d : D) (ds : List D) : Option D := match d, ds with
  | .str z, [.lst xs] => (asSt xs).bind fun zs => if decide ((zs.map (·.length)).sum + zs.length * z.length ≤ 16777216) = true then some (.str (Txt.join z zs)) else none
  | _, _ => none
def splitF (d : D) (ds : List D) : Option D := match d, ds with
  | .str z, [.str y] => if (!(y.length == 0) && decide (z.length + 2 ≤ sizeLine)) = true then some (.lst ((Txt.split z y).map D.str)) else none
  | _, _ => none
section
variable {C : Cf}
theorem o_join : OpM C (rJoin C.K) joinF := by
  intro W σ H G x dx ws ds Q hx hw q
  obtain ⟨d, e, k, _, g⟩ := op_done q
  unfold joinF at e
  split at e
  · obtain ⟨zs, e1, e2⟩ := Option.bind_eq_some_iff.mp e
    obtain ⟨h, e3⟩ := ite_some e2
    subst e3
    obtain ⟨w, rfl, hy⟩ := hw.one
    cases hx
    cases hy with
    | lst hs rr =>
      rw [asSt_ok e1] at rr
      rw [HasAll.strs rr] at hs
      exact ⟨_, _, zs, rfl, rfl, .of (g.lst hs), of_decide_eq_true h, k _ (.str _)⟩
  · cases e
theorem o_split : OpM C rSplit splitF := by
  intro W σ H G x dx ws ds Q hx hw q
  obtain ⟨d, e, k, k2, g⟩ := op_done q
  unfold splitF at e
  split at e
  · obtain ⟨h, e3⟩ := ite_some e
    subst e3
    rw [Bool.and_eq_true] at h
    obtain ⟨w, rfl, hy⟩ := hw.one
    cases hx
    cases hy
    exact ⟨_, _, rfl, rfl, by simpa using h.1, of_decide_eq_true h.2, fun p n => k2 p _ n rfl (.lst upd_same HasAll.of_strs)⟩
  · cases e
end
/-! a sign that is not in a text -/
def rNinS : R2 := fun x y H Q => ∃ (c : Nat) (z : Str), x = .str ⟨#[c]⟩ ∧ y = .str z ∧ Q (.bl (!decide (c ∈ z.cps.toList))) H
theorem op_ninS {X : Cx} : OpR X (compareOp .NotIn) rNinS := fun pins s σ H x y v u Q I rx ry h => op_notIn_sign pins s σ H x y v u Q I rx ry h
def ninSF : D → D → Option D
  | .str x, .str z => match x.cps.toList with
    | [c] => some (.bl (!decide (c ∈ z.cps.toList)))
    | _ => none
  | _, _ => none
theorem one_sign {x : Str} {c : Nat} (h : x.cps.toList = [c]) : x = ⟨#[c]⟩ := by
  cases x with
  | mk a =>
    have h : a.toList = [c] := h
    cases a
    simp at h
    rw [h]
theorem o_ninS {C : Cf} : Op2 C rNinS ninSF := by
  intro W σ H G x y dx dy Q hx hy q
  obtain ⟨d, e, k, _, g⟩ := op_done q
  unfold ninSF at e
  split at e
  · split at e
    · rename_i hc
      cases e
      cases hx
      cases hy
      exact ⟨_, _, by rw [one_sign hc], rfl, k _ (.bl _)⟩
    · cases e
  · cases e
end DL
end
section
/-! [f, g, ..][i](x, ..) -/
set_option Elab.async false
set_option linter.all false
set_option maxRecDepth 100000
set_option maxHeartbeats 4000000
namespace DL
open PySem PySem.Spec PyProof.Rows L2
section
variable {X : Cx} {C : Cf} {W : WX} {p3 pos : Pos}
def eCallE (S : FT) (mf : M D) (m : M (List D)) : M D := mf.bind fun d => match d with
  | .memo j _ => (match lkF S j with
    | some F => eCall F m
    | none => lft none)
  | _ => lft none
def tCallE (P : Program) (w : World) (K : PySem.W.Frag) (mg : Str → Option Value) (base : Heap) (CX : CXT) (k : Nat) (E : L2.St → XK) (tf : TE) (t : TA) : TE := fun σ H Q => tf σ H fun v H1 => ∃ f fd ps sp, v = V.ref f ∧ FnOk P w K mg base CX k f fd ps sp ∧ PySem.W.keepIn K (.ref f) = true ∧ Binds K fd ps [] ∧ t σ H1 fun vs H2 => sp vs H2 Q (E σ)
theorem pe_callE {CX : CXT} {k : Nat} {E : L2.St → XK} {o i e : Expr} {es : List Expr} {tf : TE} {t : TA} (hr : Room k X.A) (hx : ∀ σ, PassesAt CX X σ (E σ)) (hf : PE X (.Subscript o i p3) tf) (ha : PA X (e :: es) t)
    (he : starEach (e :: es) X.env = (false, eval e X.env) :: starEach es X.env := by rfl) (hpl : (backTo pos (starEach es X.env)).any (·.1) = false := by rfl) : PE X (.Call (.Subscript o i p3) (e :: es) [] pos) (tCallE X.prog X.w X.K X.mg X.base CX k E tf t) := by
  refine ⟨fun pins s σ H Q I h => ?_⟩
  show wpAny _ _ (do callWith pos (← eval (.Subscript o i p3) X.env) [] (backTo pos (starEach (e :: es) X.env)) (backToKw pos (keywordEach [] X.env))) _ _ s
  refine wpAny_bind (thn (hf.run pins s σ H _ I h) fun u s1 ⟨v, H1, I1, r1, f, fd, ps, sp, e1, F, hk, hb, ht⟩ => ?_)
  subst e1
  cases r1
  refine PySem.W.callWith_K (h₀ := X.base) I.ok.mod.kin hk (thn (ha.run pos pins s1 σ _ _ I1 ht) fun us s2 ⟨vs, H2, I2, r, q⟩ => ⟨I2.kIn, ?_⟩) he hpl
  exact run_fnS F hr hb (hx σ) I2 r q
theorem d_callE {k : Nat} {S : FT} {o i e : Expr} {es : List Expr} {mf : M D} {m : M (List D)} (hM : FnMr C) (fv : FVs X.prog X.w X.K X.mg X.base C k S) (hr : Room k X.A) (tk : Takes X W) (hf : DE X C W (.Subscript o i p3) mf) (ha : DA X C W (e :: es) m)
    (he : starEach (e :: es) X.env = (false, eval e X.env) :: starEach es X.env := by rfl) (hpl : (backTo pos (starEach es X.env)).any (·.1) = false := by rfl) :
    DE X C W (.Call (.Subscript o i p3) (e :: es) [] pos) (eCallE S mf m) :=
  ⟨PE.weak (pe_callE hr (fun σ => passAt tk σ) hf.pe ha.pa he hpl) fun σ H Q ⟨G, q⟩ => ⟨G, run_imp (run_bind q) fun _ _ H1 G1 d g q v hv => by
    cases d with
    | memo j d =>
      simp only at q
      cases eF : lkF S j with
      | none =>
        rw [eF] at q
        obtain ⟨_, e, _⟩ := run_lft q
        cases e
      | some F =>
        rw [eF] at q
        simp only at q
        obtain ⟨hj, y, ps, hm, hf⟩ := fv.get eF
        obtain ⟨f, fd, h1, h2, h3, h4⟩ := hf.ex
        rw [hm] at h1
        cases h1
        cases hv with
        | memo hh =>
          have hq := (hM _ _ _ _ hj).mp hh
          subst hq
          exact ⟨_, fd, ps, _, rfl, h4, h2, h3, G1, run_imp (run_bind q) fun _ _ H2 G2 ds g2 q2 vs hvs => run_call hvs q2⟩
    | _ =>
      obtain ⟨_, e, _⟩ := run_lft q
      cases e⟩⟩
end
/-! int(x == y) -/
def rIntB : List V → Hp → VK → Prop := fun vs H Q => ∃ b : Bool, vs = [.bl b] ∧ Q (.int (if b then 1 else 0)) H
theorem cr_intB {X : Cx} : CallR X (.type "int") rIntB := fun pins s σ H vs us Q I r ⟨b, e, q⟩ => call_int1 pins s σ H vs us Q I r (.inr ⟨b, e, q⟩)
def intBF : List D → Option D
  | [.bl b] => some (.int (if b then 1 else 0))
  | _ => none
theorem o_intB {C : Cf} : OpN C rIntB intBF := by
  intro W σ H G vs ds Q hv q
  obtain ⟨d, e, k, _, g⟩ := op_done q
  unfold intBF at e
  split at e
  · cases e
    obtain ⟨v, rfl, h1⟩ := hv.one
    cases h1
    exact ⟨_, rfl, k _ (.int _)⟩
  · cases e
end DL
end
section
/-! x[-1] = v of a list of a slot's own -/
set_option Elab.async false
set_option linter.all false
set_option maxRecDepth 100000
set_option maxHeartbeats 4000000
namespace DL
open PySem PySem.Spec PyProof.Rows L2
section
variable {prog : Program} {w : World} {A : Around} {E : Value → Shared → Prop} {s : Shared}
theorem set_last {l : Addr} {xs : Array Value} {k : Int} {t : Tok} {v : Value} {Q : Unit → Shared → Prop} (hl : s.heap.IsList l xs) (hn : 0 < xs.size) (hk : k = -1)
    (hQ : ∀ h', (∃ o n, h'.get? l = some o ∧ o.cls = .type "list" ∧ o.data = .seq (xs.setIfInBounds (xs.size - 1) v) n) → (∀ b o, b ≠ l → s.heap.get? b = some o → h'.get? b = some o) → h' = s.heap.update l (Obj.mapSeq (·.setIfInBounds (xs.size - 1) v)) → Q () { s with heap := h' }) :
    wpAny (model prog w) A (setItem (.ref l) (.int k t) v) Q E s := by
  obtain ⟨o, ho, hc, n, hd⟩ := id hl
  have ix : seqIndex? (Int.negSucc 0) xs.size = some (xs.size - 1) := by
    rw [seqIndex_neg (by decide) (by omega)]
    congr 1
    omega
  have it : xs[xs.size - 1]? = some xs[xs.size - 1] := Array.getElem?_eq_getElem (by omega)
  have setter : ∀ P : Option Value → Shared → Prop, (∀ h', h' = s.heap.update l (Obj.mapSeq (·.setIfInBounds (xs.size - 1) v)) → P (some .none) { s with heap := h' }) → wpAny (model prog w) A (callSpecial? (.ref l) (Str.ofString "__setitem__") [.int k t, v]) P E s := fun P hP => by
    refine wpAny_callSpecial?_slot hl.typeIs slot_list_setitem (wpAny_call_entry slot_list_setitem hl.typeIs entry_list_setitem ?_ (args_list_setitem _ _ _))
    show wpAny _ _ (Builtin.List.listSubscript? (.int k t) >>= _) _ _ s
    refine wpAny_bind (wpAny_listSubscript_int (by rw [hk]; decide) ?_)
    have hk' : k = Int.negSucc 0 := hk
    subst hk'
    show wpAny _ _ ((Builtin.List.listItems (.ref l) >>= fun ys => pure ((seqIndex? (Int.negSucc 0) ys.size).bind fun i => ys[i]?.map (i, ·))) >>= _) _ _ s
    refine wpAny_bind (wpAny_bind ?_)
    show wpAny _ _ (seqItems? (.ref l) >>= _) _ _ s
    refine wpAny_bind (wpAny_seqItems ho hd (wpAny_pure (wpAny_pure ?_)))
    rw [ix]
    simp only [Option.bind_some, it, Option.map_some]
    show wpAny _ _ (setSeqItemAt l (xs.size - 1) v >>= _) _ _ s
    refine wpAny_bind (wpAny_setSeqItemAt ho hd ?_)
    first
      | exact wpAny_bind (wpAny_pure (wpAny_pure ⟨.none, rfl, hP _ rfl⟩))
      | exact wpAny_pure ⟨.none, rfl, hP _ rfl⟩
  unfold setItem
  refine wpAny_holding (wpAny_bind (wpAny_sequenceKey hl.typeIs (by decide) (wpAny_bind (setter _ fun h' e => ?_))))
  obtain ⟨n', hd'⟩ := Obj.data_mapSeq hd (·.setIfInBounds (xs.size - 1) v)
  refine wpAny_pure (hQ h' ?_ (fun b u hb hu => ?_) e)
  · rw [e]
    exact ⟨_, n', Heap.get?_update_self _ ho (Obj.isFreed_of_seq hd'), (Obj.cls_mapSeq ..).trans hc, hd'⟩
  · rw [e]
    exact (Heap.get?_update_other s.heap _ (Ne.symm hb)).trans hu
end
theorem vals_set : ∀ {xs : List V} {us : List Value} (j : Nat) {v : V} {u : Value}, Vals xs us → RelV v u → Vals (xs.set j v) (us.set j u)
  | [], _, _, _, _, .nil, _ => .nil
  | _ :: _, _, 0, _, _, .cons h t, r => .cons r t
  | _ :: _, _, j + 1, _, _, .cons h t, r => .cons h (vals_set j t r)
section
variable {C : Cf} {G : Hp}
theorem HasAll.put : ∀ {vs : List V} {ds : List D} (j : Nat) {v : V} {d : D}, HasAll C G vs ds → Has C G v d → HasAll C G (vs.set j v) (ds.set j d)
  | [], _, _, _, _, .nil, _ => .nil
  | _ :: _, _, 0, _, _, .cons h t, r => .cons r t
  | _ :: _, _, j + 1, _, _, .cons h t, r => .cons h (HasAll.put j t r)
end
section
variable {X : Cx} {C : Cf} {W : WX} {pos p apos : Pos} {o k e : Expr} {td ty tv : TE}
def sLPut (td ty tv : TE) : TS := fun Dn σ H => tv σ H fun v H1 => td σ H1 fun x H2 => ty σ H2 fun y H3 => ∃ a xs, x = V.ref a ∧ y = V.int (-1) ∧ H3 a = some (.lst xs) ∧ 0 < xs.length ∧ Dn.nx σ (upd H3 a (.lst (xs.set (xs.length - 1) v)))
theorem ps_lput (ho : PE X o td) (hi : PE X k ty) (hv : PE X e tv) (hs : swapsWith e (some (.Subscript o k apos)) pos.line X.env = pure false) : PS X (.Assign [.Subscript o k apos] e pos) (sLPut td ty tv) := by
  refine ⟨fun pins s σ H D I h => wpAny_Assign_Subscript (thn (hv.run pins s σ H _ I h) fun r s1 ⟨v, H1, I1, rv, q1⟩ => thn (ho.run pins s1 σ H1 _ I1 q1) fun u s2 ⟨x, H2, I2, rx, q2⟩ => ?_) hs⟩
  refine thn (hi.run pins s2 σ H2 _ I2 q2) fun iv s3 ⟨y, H3, I3, ry, a, xs, e1, e2, hH, hn, q3⟩ => ?_
  subst e1 e2
  cases rx
  obtain ⟨t, rfl⟩ := ry
  obtain ⟨z, its, n, rl, hl, hg⟩ := I3.lstM hH
  refine set_last (xs := its.toArray) ⟨_, hg, rfl, n, rfl⟩ (by rw [List.size_toArray]; omega) rfl fun h' _ _ eh => ?_
  rw [eh]
  refine ⟨σ, _, I3.lset (t' := s3.toks) (its' := its.set (xs.length - 1) r) hH hg ?_ (vals_set _ rl rv) (by rw [List.length_set]; exact z), q3⟩
  rw [List.size_toArray, ← hl]
  simp
/-- x[-1] = v -/
def eSetL (i : Nat) (mv mk : M D) : M D := fun a => match a[i]? with
  | some (.own _) => (mv.bind fun v => mk.bind fun k a1 => match a1[i]?, k with
    | some (.own xs), .int j => if (decide (j = -1) && decide (0 < xs.length)) = true then R.ok D.non (a1.set i (.own (xs.set (xs.length - 1) v))) else .bad
    | _, _ => .bad) a
  | _ => .bad
theorem d_setL {i : Nat} {x : Str} {mv mk : M D} (hval : DE X C W e mv) (hk : DE X C W k mk) (hN : X.N[i]? = some x := by rfl) (hv : Vis X.env.scope x := by first | exact Or.inl rfl | exact Or.inr (Or.inl rfl) | exact Or.inr (Or.inr rfl)) (hd : (x == ("__debug__" : Str)) = false := by decide) (hcd : (x == ("__classdict__" : Str)) = false := by decide)
    (hs : swapsWith e (some (.Subscript (.Name x p) k apos)) pos.line X.env = pure false := by rfl) : DS X C W (.Assign [.Subscript (.Name x p) k apos] e pos) (sDrop (eSetL i mv mk)) :=
  ⟨PS.weak (ps_lput (pe_var hN hv hd hcd) hk.pe hval.pe hs) fun Dn σ H ⟨G, q⟩ => by
    have q : run C W (eSetL i mv mk) σ H G (fun _ _ H' _ _ => Dn.nx σ H') := run_imp (srun_bind q) fun _ _ H1 G1 d g ⟨B, G0, a, r, q⟩ => q σ H1 G1 .refl r
    obtain ⟨B, G0, a, r0, q⟩ := q
    unfold eSetL at q
    cases e0 : a[i]? with
    | none => rw [e0] at q; exact q.elim
    | some s =>
      rw [e0] at q
      cases s with
      | own xs0 =>
        obtain ⟨p0, o0, h1, h2, h3, h4, h5⟩ := r0.slot i _ e0
        have q : run C W (mv.bind fun v => mk.bind fun k a1 => match a1[i]?, k with
          | some (.own xs), .int j => if (decide (j = -1) && decide (0 < xs.length)) = true then R.ok D.non (a1.set i (.own (xs.set (xs.length - 1) v))) else .bad
          | _, _ => .bad) σ H G (fun _ _ H' _ _ => Dn.nx σ H') := ⟨B, G0, a, r0, q⟩
        refine ⟨G, run_imp (run_bind q) fun _ _ H1 G1 v g1 q1 w hw => ⟨_, h1, G1, run_imp (run_bind q1) fun _ _ H2 G2 y g2 q2 u hu => ?_⟩⟩
        obtain ⟨B, G0, a, r1, q2⟩ := q2
        dsimp only at q2
        cases e1 : a[i]? with
        | none => rw [e1] at q2; exact q2.elim
        | some s =>
          rw [e1] at q2
          cases s with
          | own xs =>
            obtain ⟨p1, o, w1, w2, w3, w4, w5⟩ := r1.slot i _ e1
            rw [h1] at w1
            cases w1
            cases o with
            | lst vs =>
              cases y with
              | int j =>
                dsimp only at q2
                by_cases hz : (decide (j = -1) && decide (0 < xs.length)) = true
                · rw [if_pos hz] at q2
                  rw [Bool.and_eq_true, decide_eq_true_eq, decide_eq_true_eq] at hz
                  cases hu
                  have w3 : HasAll C G2 vs xs := w3
                  refine ⟨p0, vs, rfl, by rw [hz.1], w2, by rw [w3.length]; exact hz.2, q2 _ G2 .refl (r1.write (o := .lst vs) (o' := .lst (vs.set (vs.length - 1) w)) (t := .own (xs.set (xs.length - 1) v)) e1 rfl h1 (show OwnOk C G2 (.own (xs.set (xs.length - 1) v)) (.lst (vs.set (vs.length - 1) w)) from ?_))⟩
                  show HasAll C G2 (vs.set (vs.length - 1) w) (xs.set (xs.length - 1) v)
                  rw [w3.length]
                  exact w3.put _ (hw.mono g2)
                · rw [if_neg hz] at q2
                  exact q2.elim
              | _ => exact q2.elim
            | _ => exact w3.elim
          | _ => exact q2.elim
      | _ => exact q.elim⟩
end
end DL
end
section
/-! a comprehension whose element may raise: its meaning -/
set_option Elab.async false
set_option linter.all false
set_option maxRecDepth 100000
set_option maxHeartbeats 4000000
namespace DL
open PySem PySem.Spec PyProof.Rows L2
def cmpX (vs : List Nat) (g : Tg) (e : M D) : List D → M (List D)
  | [], a => .ok [] a
  | d :: ds, a => match g d (wipeA a vs) with
    | none => .bad
    | some a1 => match e a1 with
      | .ok x a3 => (match cmpX vs g e ds a3 with
        | .ok xs a4 => .ok (x :: xs) a4
        | .exc c a4 => .exc c a4
        | .bad => .bad)
      | .exc c a3 => .exc c a3
      | .bad => .bad
def eLCx (vs : List Nat) (mi : M (List D)) (g : Tg) (e : M D) : M D := mi.bind fun ds a => if sz ds.length = true then (match cmpX vs g e ds a with
  | .ok xs a' => .ok (.lst xs) (restA a a' vs)
  | .exc c a' => .exc c (restA a a' vs)
  | .bad => .bad) else .bad
end DL
end
section
/-! try .. except X: without a name -/
set_option Elab.async false
set_option linter.all false
set_option maxRecDepth 100000
set_option maxHeartbeats 4000000
namespace DL
open PySem PySem.Spec PyProof.Rows L2
def RS.noExc : RS → RS
  | .exc _ _ => .bad
  | r => r
noncomputable def sTryN (ks : List Nat) (b : MS) (T : Nat) (h : MS) : MS := fun a => match b a with
  | .exc c a' => if c ∈ ks then (if subE c T = true then (h a').noExc else .exc c a') else .bad
  | r => r
section
variable {C : Cf} {W : WX} {Dn : Ends}
theorem ends_noExc {B G0 G : Hp} {σ σ2 : DL.St} {r : RS} (h : ends C W Dn B G0 σ G r.noExc) : ends C W0E Dn B G0 σ2 G r := by
  cases r with
  | exc c a => exact h.elim
  | bad => exact h.elim
  | nx a => exact h
  | ret d a => exact h
  | brk a => exact h
  | ct a => exact h
end
section
variable {X : Cx} {C : Cf} {W : WX} {x : Str} {cv : Value} {body suite : List Stmt} {b₀ : Stmt} {np pos pos' : Pos} {mb mh : MS} {T : Nat}
theorem d_tryN (ks : List Nat) (tk : Takes X W) (hc : Names X x cv) (ef : EF C.K C.xa ks T cv)
    (hsu : ∀ c ∈ ks, ∀ (a : Addr) (oe : Obj) (pn : List (Addr × Obj)), Zc (.ref (C.xa c)) none oe → (∃ vs, oe.data = .fields vs) → DSs (X.suite a ((a, oe) :: pn)) C W0E (b₀ :: suite) mh)
    (hb : ∀ (W : WX) (pn : List (Addr × Obj)) (xe : Value → Shared → Prop), Takes (X.tr pn xe) W → PassesOwn (model X.prog X.w) X.A X.env xe → DSs (X.tr pn xe) C W body mb)
    (hs : X.stack = X.env :: X.outer := by rfl) (hf : X.env.frame = some X.env.locals := by rfl) (hK : X.K = C.K := by rfl) : DS X C W (.Try body [.ExceptHandler (some (.Name x np)) none (b₀ :: suite) pos'] [] [] pos) (sTryN ks mb T mh) := by
  refine ⟨PS.weak (ps_try_only hs hf hc tk (tb := fun W => tS C W mb) (ts := fun a cls d Dn σ H => ∃ c ∈ ks, cls = .ref (C.xa c) ∧ d = none ∧ tS C W0E mh Dn σ H) (fun W pn xe t p => (hb W pn xe t p).pss) (fun a oe cls d pn hz hf => ⟨fun pins s σ H Q I ⟨c, hk, e1, e2, q⟩ => ?_⟩)) fun Dn σ H ⟨G, B, G0, a, r, w⟩ => ⟨G, B, G0, a, r, ?_⟩⟩
  · subst e1 e2
    exact (hsu c hk a oe pn hz hf).pss.run pins s σ H Q I q
  unfold sTryN at w
  cases e : mb a with
  | exc c a1 =>
    rw [e] at w
    simp only at w
    by_cases hk : c ∈ ks
    · rw [if_pos hk] at w
      intro σ' H' G' g' r'
      have w := w.imp (σ' := σ) g' (fun _ _ z => z) (fun _ _ z => z) (fun _ _ z => z) fun _ _ z => z
      refine ⟨subE c T, by rw [hK]; exact ef.exm c hk, fun hb ae ha => ?_, fun hb => ?_⟩
      · rw [if_pos hb] at w
        exact ⟨c, hk, rfl, rfl, G', B, G0, a1, r', ends_noExc w⟩
      · rw [if_neg (by rw [hb]; exact Bool.false_ne_true)] at w
        exact w σ' H' G' .refl r'
    · rw [if_neg hk] at w
      exact w.elim
  | nx a1 => rw [e] at w; exact w
  | ret d a1 => rw [e] at w; exact w
  | brk a1 => rw [e] at w; exact w
  | ct a1 => rw [e] at w; exact w
  | bad => rw [e] at w; exact w
end
end DL
end
section
/-! a comprehension whose element may raise: the rule (exceptions out of a call alone) -/
set_option Elab.async false
set_option linter.all false
set_option maxRecDepth 100000
set_option maxHeartbeats 4000000
namespace DL
open PySem PySem.Spec PyProof.Rows L2

/-- an exception that flies over X's frames or is held at the frame L -/
def XL (X : Cx) (L : Addr) (W : WX) (u : Value) (s' : Shared) : Prop :=
  ∃ (a : Addr) (B : Heap) (sI : Shared) (pins : List (Addr × Obj)) (σ : L2.St) (H : Hp) (cls : Value) (d : Option Addr),
    u = .ref a ∧ Inv X pins σ H sI ∧ (∀ b o, sI.heap.get? b = some o → b ∉ frs X.stack → B.get? b = some o) ∧ sI.heap.UpToSlots s'.heap ∧
      (HandSPX.FlyingZ B X.stack a (Zc cls d) s'.heap ∨ HandSPX.HeldZ B X.stack a (Zc cls d) L s'.heap) ∧ H a = none ∧ s'.os = sI.os ∧ AllBare s'.gens ∧ W cls d σ H
/-- X takes these; its frame is L -/
structure TkL (X : Cx) (L : Addr) (W : WX) : Prop where
  fr : ∃ env0 outer0, X.stack = env0 :: outer0 ∧ env0.frame = some L ∧ X.env.frame = some L
  tk : ∀ u s', XL X L W u s' → X.xe u s'
theorem TkL.of {X : Cx} {W : WX} (tk : Takes X W) (hs : X.stack = X.env :: X.outer := by rfl) (hf : X.env.frame = some X.env.locals := by rfl) : TkL X X.env.locals W where
  fr := ⟨X.env, X.outer, hs, hf, hf⟩
  tk := fun u s' ⟨a, B, sI, pins, σ, H, cls, d, e, I, nb, up, sky, na, os, ag, w⟩ => tk u s' ⟨a, B, sI, pins, σ, H, cls, d, e, I, nb, up, .inr sky, na, os, ag, w⟩

section
variable {X : Cx} {W : WX} {L : Addr}
theorem TkL.passAt (t : TkL X L W) (σ : L2.St) : PassesAt (L2.CX X.prog X.w) X σ (WE W σ) := fun pins H s e s' I c => by
  refine t.tk e s' ?_
  obtain ⟨a, B, H', cls, d, rfl, fl, hok, ub, na, os, ag, hE⟩ := c
  obtain ⟨G, g1, g2⟩ := restrict s'.heap fun b => (B.get? b).isSome || decide (b ∈ frs X.stack)
  have st : B.StaysIn s'.heap := fl.1
  have gB : ∀ b o, B.get? b = some o → G.get? b = some o := fun b o e => by
    rw [g1 b (by simp [e])]
    exact st b o e
  have gF : ∀ b, b ∈ frs X.stack → G.get? b = s'.heap.get? b := fun b hb => g1 b (by simp [hb])
  have og : ∀ b o, G.get? b = some o → s'.heap.get? b = some o ∧ ((B.get? b).isSome = true ∨ b ∈ frs X.stack) := fun b o e => by
    cases q : ((B.get? b).isSome || decide (b ∈ frs X.stack)) with
    | false => rw [g2 b q] at e; cases e
    | true =>
      rw [g1 b q] at e
      exact ⟨e, by simpa [Bool.or_eq_true] using q⟩
  refine ⟨a, B, { s with heap := G, gens := s'.gens, drawn := s'.drawn, toks := s'.toks }, pins, σ, H', cls, d, rfl, ?_, fun b o e hb => ?_, Heap.UpToSlots.of_keeps fun b o e => (og b o e).1, .inl fl, na, os, ag, hE⟩
  · refine I.call (ch := []) ⟨fun b o e n hb _ => gB b o (ub.keep b o e n hb), fun b o e n hb _ => ?_, fun b o e n _ => ub.free b o e n, fun b o e _ => ?_, ub.tups, ub.frzs, ub.tbls⟩ (hok.kept gB) ag (fun _ z => nomatch z)
    · obtain ⟨sl, q⟩ := ub.slot b o e hb
      exact ⟨sl, by rw [gF b hb]; exact q⟩
    · by_cases hb : b ∈ frs X.stack
      · obtain ⟨sl, q⟩ := ub.slot b o e hb
        exact ⟨_, by rw [gF b hb]; exact q⟩
      · obtain ⟨o', q⟩ := ub.there b o e hb
        exact ⟨o', gB b o' q⟩
  · obtain ⟨e', h⟩ := og b o e
    rcases h with h | h
    · obtain ⟨o', q⟩ := Option.isSome_iff_exists.mp h
      have z := st b o' q
      rw [e'] at z; cases z
      exact q
    · exact absurd h hb

/-- what a block's element may raise goes on from the def around it -/
theorem TkL.blk {pins : List (Addr × Obj)} {σ : L2.St} {H3 : Hp} {s3 : Shared} {scope : Scope} {ce : Env} {fp : List Addr} (t : TkL X L W) (I3 : Inv X pins σ H3 s3)
    (f3 : ∀ b ∈ fp, FpOk X pins H3 b ∧ b < s3.heap.objs.size) (hcf : ce.frame = X.env.frame) (hcl : ce.locals = s3.heap.objs.size) :
    TkL ((X.blk s3 H3 scope ce fp).wish (notedBy (model X.prog X.w) X.A ce (CompFails (model X.prog X.w) X.A X.xe ce))) L (fun cls d _ H => W cls d σ H) := by
  obtain ⟨env0, outer0, hs, hf0, hfX⟩ := t.fr
  refine ⟨⟨env0, outer0, hs, hf0, hcf.trans hfX⟩, ?_⟩
  rintro u s' ⟨a, B, sI, pb, σb, H, cls, d, rfl, Ib, nb, up, sky, na, os, ag, w⟩
  have hfr : X.A.frames = some (env0 :: outer0) := by rw [I3.ok.frames, hs]
  have sky : HandSPX.FlyingZ B (env0 :: outer0) a (Zc cls d) s'.heap ∨ HandSPX.HeldZ B (env0 :: outer0) a (Zc cls d) L s'.heap := by rw [← hs]; exact sky
  -- behind the note
  have goOn : ∀ h1, HandSPX.HeldZ B (env0 :: outer0) a (Zc cls d) L h1 → s'.heap.UpToSlots h1 → CompFails (model X.prog X.w) X.A X.xe ce (.ref a) { s' with heap := h1 } := fun h1 hh up1 => by
    obtain ⟨m, hn, _⟩ := Ib.loc
    have hn : sI.heap.Ns ce.locals m := hn
    have hn1 : h1.Ns ce.locals m := (up.trans up1).ns hn
    refine ⟨m, hn1, fun h2 m2 hn2 sb => ?_⟩
    have sb : Heap.SameBut ce.locals h1 h2 := sb
    obtain ⟨b1, b0, ff, oe, vs, T, oT, ts, he, hz, hd, hv1, hnT, hTe, hT, hdT, hfl⟩ := hh
    obtain ⟨B', g1, g2⟩ := restrict B fun b => decide (b ≠ ce.locals)
    have bB : ∀ b o, B'.get? b = some o → B.get? b = some o ∧ b ≠ ce.locals := fun b o e => by
      by_cases z : b = ce.locals
      · rw [g2 b (by simp [z])] at e; cases e
      · rw [g1 b (by simp [z])] at e; exact ⟨e, z⟩
    have none' : ∀ b, B.get? b = none → B'.get? b = none := fun b e => by
      cases q : B'.get? b with
      | none => rfl
      | some o => rw [(bB b o q).1] at e; cases e
    obtain ⟨oL, es, ep, hoL, hdL, _⟩ := id hn1
    have ne : ∀ {b : Addr} {o : Obj} {xs : Array Value}, h1.get? b = some o → o.data = .fields xs → b ≠ ce.locals := fun {b o xs} e hd z => by
      rw [z, hoL] at e; cases e; rw [hdL] at hd; cases hd
    have nea := ne he hd
    have neT := ne hT hdT
    have st2 : B'.StaysIn h2 := fun b o e => by
      obtain ⟨e1, z⟩ := bB b o e
      exact (sb.2 b z).trans (b1 b o e1)
    have f2 : h2.FunFrames B' (env0 :: outer0) := funFrames_none (Heap.FunFrames.sameBut sb hn2 ff) fun b hb => none' b (ff.mem hb).1
    have hh2 : HandSPX.HeldZ B' (env0 :: outer0) a (Zc cls d) L h2 :=
      ⟨st2, none' a b0, f2, oe, vs, T, oT, ts, (sb.2 a nea).trans he, hz, hd, hv1, none' T hnT, hTe, (sb.2 T neT).trans hT, hdT, hfl⟩
    unfold PySem.passOn
    refine wpAny_bind (wpAny_field (s := { s' with heap := h2 }) ((sb.2 a nea).trans he) hd hv1 ?_)
    rw [if_neg (show ¬ ((Value.ref T == Value.none) = true) from by simp)]
    have fin : wpAny (model X.prog X.w) X.A (setFlight (.ref a) ce.frame) (fun _ s4 => wpAny (model X.prog X.w) X.A (throw (.ref a) : Sem Value) (fun _ _ => False) X.xe s4) X.xe { s' with heap := h2 } := by
      rw [hcf, hfX]
      refine HandSPX.setFlight_onZ (s := { s' with heap := h2 }) hh2 fun h4 hh4 up4 => wpAny_throw (t.tk _ _ ?_)
      -- the state without the block's names
      obtain ⟨G, k1, k2⟩ := restrict sI.heap fun b => decide (b ≠ ce.locals)
      have kG : ∀ b o, b ≠ ce.locals → sI.heap.get? b = some o → G.get? b = some o := fun b o z e => by rw [k1 b (by simp [z])]; exact e
      have oG : ∀ b o, G.get? b = some o → sI.heap.get? b = some o ∧ b ≠ ce.locals := fun b o e => by
        by_cases z : b = ce.locals
        · rw [k2 b (by simp [z])] at e; cases e
        · rw [k1 b (by simp [z])] at e; exact ⟨e, z⟩
      have lt3 : ∀ b o, s3.heap.get? b = some o → b ≠ ce.locals := fun b o e z => by
        have := Heap.lt_size e
        rw [z, hcl] at this
        exact Nat.lt_irrefl _ this
      have ub : Un (frs X.stack) fp H3 H s3.heap sI.heap := Ib.base
      have free : H ce.locals = none := Ib.free
      have hokG : HOk X.prog X.w H G := fun b o q => (Ib.hok b o q).stay (fun c v hc r => kG c v (fun z => by
        rcases hc with hc | hc
        · rw [← hc, z] at q; rw [free] at q; cases q
        · rw [z, free] at hc; cases hc) r) (fun _ r => r) fun _ _ r => r
      have IG : Inv X pins σ H { sI with heap := G } := I3.call' (ch := fp) (s' := { sI with heap := G }) Ib.os
        ⟨fun b o e n hb hx => kG b o (lt3 b o e) (ub.keep b o e n hb hx), fun b o e n hb hx => by
            obtain ⟨sl, q⟩ := ub.slot b o e n hb hx
            exact ⟨sl, kG b _ (lt3 b o e) q⟩, ub.free, fun b o e hx => by
            obtain ⟨o', q⟩ := ub.there b o e hx
            exact ⟨o', kG b o' (lt3 b o e) q⟩, ub.tups, ub.frzs, ub.tbls⟩ hokG Ib.bare fun b hb => ⟨(f3 b hb).1.2.2.2.1, (f3 b hb).1.2.1, (f3 b hb).1.2.2.2.2.1, (f3 b hb).1.2.2.2.2.2⟩
      refine ⟨a, B', { sI with heap := G }, pins, σ, H, cls, d, rfl, IG, fun b o e hb => ?_, fun b o e hnf => ?_, .inr (by rw [hs]; exact hh4), na, os, ag, w⟩
      · obtain ⟨e1, z⟩ := oG b o e
        rw [g1 b (by simp [z])]
        exact nb b o e1 hb
      · obtain ⟨e1, z⟩ := oG b o e
        obtain ⟨sl, e2⟩ := (up.trans up1) b o e1 hnf
        obtain ⟨sl', e3⟩ := up4 b { o with slots := sl } ((sb.2 b z).trans e2) hnf
        exact ⟨sl', e3⟩
    first
      | exact wpAny_bind (wpAny_pure (wpAny_bind fin))
      | exact wpAny_bind fin
  show wpAny (model X.prog X.w) X.A (noteFrame (.ref a) ce) _ _ s'
  rw [noteFrame_env (.ref a) (show ce.frame = env0.frame from (hcf.trans hfX).trans hf0.symm)]
  rcases sky with fl | hh
  · exact HandSPX.looks_onZ Zc.steady hfr hf0 fl fun h1 hh up1 => goOn h1 hh up1
  · exact HandSPX.againZ hf0 hh.2.2.2 (goOn s'.heap hh (Heap.UpToSlots.refl _))
end
end DL
end
section
/-! .. the walk of the block, the rule -/
set_option Elab.async false
set_option linter.all false
set_option maxRecDepth 100000
set_option maxHeartbeats 4000000
namespace DL
open PySem PySem.Spec PyProof.Rows L2
section
variable {X : Cx}
def tLcX (wi : TI) (g : TG) (te : L2.St → TE) (vs : List Nat) : TE := fun σ H Q => wi σ H fun J H1 => ∀ D, H1 D = none → ∃ W : Nat → Nat → Hp → Prop, (∃ m, W 0 m (upd H1 D (.lst []))) ∧ ∀ i m H, W i m H →
  (J.stop i H ∧ Q (.ref D) H) ∨ (J.go i H ∧ ∃ Nx : Hp → Prop, (∀ H', Nx H' → ∃ m', m' < m ∧ W (i + 1) m' H') ∧ ∀ x H', J.yld i H x H' → g x (wipe σ vs) H' fun σ2 H2 => wipe σ2 vs = wipe σ vs ∧
    te σ σ2 H2 fun y H4 => ∃ acc, H4 D = some (.lst acc) ∧ acc.length < sizeLine ∧ Nx (upd H4 D (.lst (acc ++ [y]))))
theorem pe_lcx {W : WX} {L : Addr} {elt tg iter : Expr} {scope : Scope} {own : List (Str × Nat)} {pos : Pos} {wi : TI} {g : TG} {te : L2.St → TE} (hc : X.calm = true) (hN : X.N.Nodup) (hi : PI X tg iter wi) (ok : BlkOk X.N X.env.scope scope own) (tk : TkL X L W)
    (hg : ∀ (s : Shared) (H : Hp) (C : Addr) (cl : List (Str × Addr)) (fp : List Addr) (xe : Value → Shared → Prop), PG ((X.blk s H scope (compEnvC scope cl C X.env) fp).wish xe) tg g)
    (he : ∀ (s : Shared) (H : Hp) (C : Addr) (cl : List (Str × Addr)) (fp : List Addr) (xe : Value → Shared → Prop) (σ : L2.St), TkL ((X.blk s H scope (compEnvC scope cl C X.env) fp).wish xe) L (fun cls d _ H => W cls d σ H) → PE ((X.blk s H scope (compEnvC scope cl C X.env) fp).wish xe) elt (te σ))
    (hs : ∀ x, foldedSetIterable iter X.env x = pure x := by intro _; rfl) :
    PE X (.ListComp elt [⟨tg, iter, [], 0⟩] scope pos) (tLcX wi g te (own.map (·.2))) := by
  refine ⟨fun pins s σ H Q I h => ?_⟩
  rw [eval_ListComp]
  have hfree : ∀ y ∈ scope.names, y.2 = .free → ∃ c, X.env.cells.lookup y.1 = some c := fun y hy e => by
    rcases ok.free y hy e with k | k
    · exact I.ok.has _ (.inl k)
    · exact I.ok.has _ (.inr k)
  refine comprehension_at (use := none) rfl hs (closure_ok hfree) ok.kind (fun y hy e => by rw [ok.uniq y hy, e])
    (thn (hi.run pins s σ H _ I h) fun xv s1 hx => thn hx fun itv s2 h2 => ?_)
  obtain ⟨it, fp, tn, J, H2, e, I2, T, st2, f2, q⟩ := h2
  subst e
  refine wpAny_newObj_type (newEnv_comp ?_) (by show 0 ≤ sizeLine; decide)
  generalize hD : s2.heap.objs.size = D
  have hDn : H2 D = none := I2.hok.fresh (Nat.le_of_eq hD)
  obtain ⟨W0, ⟨m0, w0⟩, turn⟩ := q D hDn
  generalize hs3 : ({ s2 with heap := s2.heap.push { cls := .type "list", data := .seq ([] : List Value).toArray } } : Shared) = s3
  have I3 : Inv X pins σ (upd H2 D (.lst [])) s3 := by
    rw [← hs3]
    refine I2.laid (t' := s2.toks) (fun b o e => Heap.get?_push_of_some _ e) (Nat.le_of_eq hD) ⟨Nat.zero_le _, [], 0, .nil, ?_⟩
    rw [← hD]
    exact Heap.get?_push_size _ rfl
  have h3 : s3.heap = s2.heap.push { cls := .type "list", data := .seq ([] : List Value).toArray } := by rw [← hs3]
  have sz : ∀ b ∈ fp, b < s2.heap.objs.size := fun b hb => by
    obtain ⟨o, e, _⟩ := T.obj _ _ st2 b hb
    exact Heap.lt_size e
  have f3 : ∀ b ∈ fp, FpOk X pins (upd H2 D (.lst [])) b ∧ b < s3.heap.objs.size := fun b hb => by
    have hlt := sz b hb
    refine ⟨⟨?_, (f2 b hb).2⟩, by rw [h3, Heap.size_push]; exact Nat.lt_succ_of_lt hlt⟩
    rw [upd_ne (by rw [← hD]; exact Nat.ne_of_lt hlt)]
    exact (f2 b hb).1
  have st3 : tn 0 s3.heap := T.keep _ _ _ st2 fun b _ o e => by rw [h3]; exact Heap.get?_push_of_some _ e
  have I4 := block_start I3 ok hN f3
  have pg := hg s3 (upd H2 D (.lst [])) s3.heap.objs.size (cellsFrom (s3.heap.objs.size + 1) scope.names (cloFrom X.env.cells scope.names [])) fp
  have pe := he s3 (upd H2 D (.lst [])) s3.heap.objs.size (cellsFrom (s3.heap.objs.size + 1) scope.names (cloFrom X.env.cells scope.names [])) fp
  show codeAny _ _ (.compStart (.ListComp elt [⟨tg, iter, [], 0⟩] scope pos) 0 (.ref it) (.ref D) (compEnvC scope (cellsFrom (s3.heap.objs.size + 1) scope.names (cloFrom X.env.cells scope.names [])) s3.heap.objs.size X.env))
    (compEnds (model X.prog X.w) X.A X.xe none (EP X pins σ Q) (.ref D) (compEnvC scope (cellsFrom (s3.heap.objs.size + 1) scope.names (cloFrom X.env.cells scope.names [])) s3.heap.objs.size X.env)) { s3 with heap := pushCells (s3.heap.push { cls := .type "dict", data := .dict #[] }) scope.names }
  have nfp : ∀ b ∈ fp, (upd H2 D (.lst [])) b = none := fun b hb => (f3 b hb).1.1
  generalize hce : compEnvC scope (cellsFrom (s3.heap.objs.size + 1) scope.names (cloFrom X.env.cells scope.names [])) s3.heap.objs.size X.env = ce at I4 pg pe ⊢
  have cL : ce.locals = s3.heap.objs.size := by subst hce; rfl
  have cF : ce.frame = X.env.frame := by subst hce; rfl
  generalize hH3 : upd H2 D (.lst []) = H3 at I3 I4 pg pe w0 nfp f3
  have tb := tk.blk (scope := scope) I3 f3 cF cL
  generalize hxe : notedBy (model X.prog X.w) X.A ce (CompFails (model X.prog X.w) X.A X.xe ce) = xe at tb
  have pg := pg xe
  have pe := pe xe σ tb
  generalize hs4 : ({ s3 with heap := pushCells (s3.heap.push { cls := .type "dict", data := .dict #[] }) scope.names } : Shared) = s4 at I4 ⊢
  have st4 : tn 0 s4.heap := T.keep _ _ _ st3 fun b _ o e => by rw [← hs4]; exact pushCells_keeps _ _ _ _ (Heap.get?_push_of_some _ e)
  have stat : ∀ {σ' : L2.St} {H' : Hp} {s' : Shared}, Inv ((X.blk s3 H3 scope ce fp).wish xe) [] σ' H' s' → (∀ b ∈ fp, H' b = none) → ∀ b ∈ fp, FpOk ((X.blk s3 H3 scope ce fp).wish xe) [] H' b := fun {σ' H' s'} I' hn b hb =>
    ⟨hn b hb, (I'.ok.exf b hb).1, I'.ok.exfs b hb, .inl hb, fun x c e => (I'.ok.exf b hb).2 x c e, fun p hp => absurd (show p ∈ ([] : List (Addr × Obj)) ++ [] from hp) (by simp)⟩
  have loop : codeAny (model X.prog X.w) X.A (.compLoop (.ListComp elt [⟨tg, iter, [], 0⟩] scope pos) 0 (.ref it) (.ref D) ce) (compEnds (model X.prog X.w) X.A X.xe none (EP X pins σ Q) (.ref D) ce) s4 := by
    refine compLoop_any (fun n s' => ∃ i H', Inv ((X.blk s3 H3 scope ce fp).wish xe) [] (wipe σ (own.map (·.2))) H' s' ∧ tn i s'.heap ∧ (∀ b ∈ fp, H' b = none) ∧ W0 i n H') ?_ m0 ⟨0, H3, I4.wish xe, st4, nfp, w0⟩
    rintro n s5 ⟨i, H5, I5, st5, n5, w5⟩
    rcases turn i n H5 w5 with ⟨stop, qq⟩ | ⟨go, Nx, hNx, step⟩
    · have td := T.done ((X.blk s3 H3 scope ce fp).wish xe) rfl rfl rfl hc i [] s5 _ H5 (fun _ _ => False) I5 (stat I5 n5) st5 stop
      refine thnF td fun r s6 ⟨hr, I6⟩ => ?_
      subst hr
      have I7 : Inv X pins σ H5 s6 := I3.call' (ch := fp) I6.os I6.base I6.hok I6.bare fun b hb => ⟨(f3 b hb).1.2.2.2.1, (f3 b hb).1.2.1, (f3 b hb).1.2.2.2.2.1, (f3 b hb).1.2.2.2.2.2⟩
      have nC : H5 s3.heap.objs.size = none := by
        have z : H5 ce.locals = none := I6.free
        rw [cL] at z
        exact z
      obtain ⟨m, hn, _⟩ := I6.loc
      have hn : s6.heap.Ns ce.locals m := hn
      refine ⟨m, hn, fun h'' sb => ?_⟩
      rw [cL] at sb
      obtain ⟨f0, f1, f2, f3, f4, f5⟩ := I3.fpOk (Nat.le_refl _) nC
      exact ⟨.ref D, H5, I7.turned (t' := s6.toks) (fun b o hb e => (sb.2 b hb).trans e) f0 f1 f3 f4 f5, rfl, qq⟩
    · have ti := T.item ((X.blk s3 H3 scope ce fp).wish xe) rfl rfl rfl hc i [] s5 _ H5 (fun _ _ => False) I5 (stat I5 n5) st5 go
      refine thnF ti fun r s6 ⟨u, hr, h6⟩ => ?_
      subst hr
      refine thnF h6 fun _ s7 ⟨x, H7, I7, r7, y7, st7, n7⟩ => ?_
      have I7' := I7.pinned (stat I7 n7) (T.obj _ _ st7)
      show wpAny (model X.prog X.w) X.A _ _ (notedBy (model X.prog X.w) X.A ce (CompFails (model X.prog X.w) X.A X.xe ce)) s7
      rw [hxe]
      refine thn (pg.run _ s7 _ H7 x u _ I7' r7 (step x H7 y7)) fun _ s8 ⟨σ8, H8, I8, hw8, q8⟩ => ?_
      refine wpAny_tests_nil ?_
      rw [if_pos rfl]
      have fin : ∀ {s' : Shared} {H' : Hp}, Inv ((X.blk s3 H3 scope ce fp).wish xe) ([] ++ pinsAt fp s7.heap) σ8 H' s' → Nx H' → ∃ m, m < n ∧ ∃ i H', Inv ((X.blk s3 H3 scope ce fp).wish xe) [] (wipe σ (own.map (·.2))) H' s' ∧ tn i s'.heap ∧ (∀ b ∈ fp, H' b = none) ∧ W0 i m H' := fun {s' H'} I' nx => by
        obtain ⟨m', hm, w'⟩ := hNx H' nx
        have pin' : ∀ b ∈ fp, ∀ o, s7.heap.get? b = some o → s'.heap.get? b = some o ∧ H' b = none := fun b hb o e =>
          let z := I'.pin (b, o) (List.mem_append_right _ (List.mem_append_right _ (mem_pinsAt hb e)))
          ⟨z.1, z.2.1⟩
        have hl : (wipe σ (own.map (·.2))).length = σ8.length := by rw [← hw8, wipe_length]
        refine ⟨m', hm, i + 1, H', (I'.unpinned (pins := [])).weak hl (fun j v e => ?_), T.keep _ _ _ st7 fun b hb o e => (pin' b hb o e).1, fun b hb => ?_, w'⟩
        · rw [← hw8] at e
          exact (wipe_some e).1
        · obtain ⟨o, e, _⟩ := T.obj _ _ st7 b hb
          exact (pin' b hb o e).2
      show wpAny (model X.prog X.w) X.A _ _ (notedBy (model X.prog X.w) X.A ce (CompFails (model X.prog X.w) X.A X.xe ce)) s8
      rw [hxe]
      refine thn (pe.run _ s8 σ8 H8 _ I8 q8) fun z s10 ⟨yv, H10, I10, r10, acc, hD10, hz10, nx⟩ => ?_
      exact app_ok (X := (X.blk s3 H3 scope ce fp).wish xe) I10 hD10 hz10 r10 fun s11 I11 => fin I11 nx
  exact codeAny_compStart_list loop (T.self X.A 0 _ _ _ st4 loop)
end

/-! ### over data -/
section
variable {X : Cx} {C : Cf} {W : WX} {pos : Pos} {L : Addr}
theorem lcx_ok {wi : TI} {g : TG} {gd : Tg} {vs : List Nat} {mi : M (List D)} {me : M D} {σ : DL.St} {H : Hp} {Q : VK} (hwi : ∀ σ H R, tI C W mi σ H R → wi σ H R) (hg : TGok C g gd vs)
    (q : tD C W (eLCx vs mi gd me) σ H Q) : tLcX wi g (fun σ => tD C (fun cls d _ H => W cls d σ H) me) vs σ H Q := by
  obtain ⟨G, q⟩ := q
  refine hwi σ H _ ⟨G, run_imp (run_bind q) fun _ _ H1 G1 ds g1 q J wd => ?_⟩
  obtain ⟨B, G0, a0, r0, q⟩ := q
  dsimp only at q
  intro Dd nD
  have hz : sz ds.length = true := by
    cases e : sz ds.length with
    | true => rfl
    | false => rw [e, if_neg Bool.false_ne_true] at q; exact q.elim
  rw [if_pos hz] at q
  -- what the rest of the block is to end with
  let Fin : List D → R (List D) → Prop := fun acc r => match r with
    | .ok ys a' => ∀ H' G', Grow C G1 G' → Rel C B G0 (restA a0 a' vs) σ H' G' → ∀ v, Has C G' v (.lst (acc ++ ys)) → Q v H'
    | .exc c a' => ∀ H' G', Grow C G1 G' → Rel C B G0 (restA a0 a' vs) σ H' G' → W (.ref (C.xa c)) none σ H'
    | .bad => False
  have ec : Fin [] (cmpX vs gd me ds a0) := by
    show (match cmpX vs gd me ds a0 with | .ok ys a' => _ | .exc c a' => _ | .bad => False)
    cases e : cmpX vs gd me ds a0 with
    | ok xs a' => rw [e] at q; exact q
    | exc c a' => rw [e] at q; exact q
    | bad => rw [e] at q; exact q.elim
  have eD : Ext C G1 H1 G1 (upd H1 Dd (.lst [])) := .laid r0.gh nD
  have r1 : Rel C (upd B Dd (.lst [])) G0 a0 σ (upd H1 Dd (.lst [])) G1 := (r0.ext eD).hold upd_same rfl rfl (r0.gh.free nD) (r0.bh.free nD) (r0.lone nD)
  have nB : B Dd = none := r0.bh.free nD
  refine ⟨fun i m H2 => m = ds.length - i ∧ i ≤ ds.length ∧ ∃ a G2 acc accD, Grow C G1 G2 ∧ Rel C (upd B Dd (.lst acc)) G0 (wipeA a vs) (L2.wipe σ vs) H2 G2 ∧ HasAll C G2 acc accD ∧ acc.length ≤ i ∧ Fin accD (cmpX vs gd me (ds.drop i) a),
    ⟨ds.length, by simp, Nat.zero_le _, a0, G1, [], [], .refl, r1.wipe vs, .nil, Nat.zero_le _, ec⟩, ?_⟩
  rintro i m H2 ⟨rfl, hi, a, G2, acc, accD, g2, r2, hacc, hl, ec⟩
  have nG : G2 Dd = none := r2.new Dd _ upd_same rfl ((r0.gg).free (r0.gh.free nD))
  have hD : H2 Dd = some (.lst acc) := r2.bh.keep _ _ upd_same rfl
  -- out of the block
  have out : ∀ {a : AS} {G2 : Hp} {acc : List V} {H2 : Hp}, Grow C G1 G2 → Rel C (upd B Dd (.lst acc)) G0 (wipeA a vs) (L2.wipe σ vs) H2 G2 → ∃ G3, Grow C G2 G3 ∧ G3 Dd = some (.lst acc) ∧ Rel C B G0 (restA a0 a vs) σ H2 G3 := fun {a G2 acc H2} g2 r2 => by
    have nG : G2 Dd = none := r2.new Dd _ upd_same rfl ((r0.gg).free (r0.gh.free nD))
    obtain ⟨r3, g3⟩ := r2.out rfl rfl nG nB
    exact ⟨_, g3, upd_same, r3.rest fun v d h => by
      obtain ⟨u, h1, h2⟩ := r0.slot v _ h
      exact ⟨u, h1, (h2.mono g2).mono g3⟩⟩
  by_cases hlt : i < ds.length
  · refine .inr ⟨wd.goes i H2 G2 hlt g2 r2.gh, fun H' => ∃ a G2 acc accD, Grow C G1 G2 ∧ Rel C (upd B Dd (.lst acc)) G0 (wipeA a vs) (L2.wipe σ vs) H' G2 ∧ HasAll C G2 acc accD ∧ acc.length ≤ i + 1 ∧ Fin accD (cmpX vs gd me (ds.drop (i + 1)) a),
      fun H' h => ⟨ds.length - (i + 1), by omega, rfl, hlt, h⟩, fun x H3 y => ?_⟩
    obtain ⟨G3, d, e, hx, ext⟩ := wd.yields i H2 G2 x H3 hlt g2 r2.gh y
    rw [drop_get e] at ec
    unfold cmpX at ec
    cases eg : gd d (wipeA a vs) with
    | none => rw [eg] at ec; exact ec.elim
    | some a1 =>
      rw [eg] at ec
      simp only at ec
      refine hg _ G0 G3 H3 (wipeA a vs) a1 (L2.wipe σ vs) x d _ (r2.ext ext) hx eg fun σ2 r3 w2 => ?_
      have w2 := w2 vs fun i hi => hi
      have ww : L2.wipe (L2.wipe σ vs) vs = L2.wipe σ vs := by
        refine List.ext_getElem? fun j => ?_
        rw [wipe_get, wipe_get, wipe_length]
        by_cases e : j ∈ vs ∧ j < σ.length
        · rw [if_pos e, if_pos e]
        · rw [if_neg e, if_neg e]
      rw [ww] at w2
      have g3 := g2.trans ext.gg
      refine ⟨w2, G3, _, G0, a1, r3, ?_⟩
      cases ee : me a1 with
      | bad => rw [ee] at ec; exact ec.elim
      | exc c a3 =>
        rw [ee] at ec
        intro H5 G5 g5 r5
        have r6 := r5.wipe vs
        rw [w2] at r6
        obtain ⟨G6, g6, _, r7⟩ := out (g3.trans g5) r6
        exact ec H5 G6 ((g3.trans g5).trans g6) r7
      | ok z a3 =>
        rw [ee] at ec
        simp only at ec
        intro H5 G5 g5 r5 v hv
        have nG5 : G5 Dd = none := r5.new Dd _ upd_same rfl ((r0.gg).free (r0.gh.free nD))
        refine ⟨acc, r5.bh.keep _ _ upd_same rfl, ?_, ?_⟩
        · have := of_decide_eq_true hz
          rw [sizeLine_eq]; omega
        · have r6 := (r5.swap (o' := .lst (acc ++ [v])) rfl rfl rfl nG5 nB).wipe vs
          rw [w2] at r6
          refine ⟨a3, G5, acc ++ [v], accD ++ [z], g3.trans g5, r6, ((hacc.mono ext.gg).mono g5).append (.cons hv .nil), by rw [List.length_append]; simp; omega, ?_⟩
          cases er : cmpX vs gd me (ds.drop (i + 1)) a3 with
          | exc c a4 => rw [er] at ec; exact ec
          | bad => rw [er] at ec; exact ec
          | ok zs a4 =>
            rw [er] at ec
            intro H' G' g' r' v' hv'
            refine ec H' G' g' r' v' ?_
            rw [List.append_assoc] at hv'
            exact hv'
  · have e : i = ds.length := by omega
    subst e
    rw [List.drop_length] at ec
    unfold cmpX at ec
    refine .inl ⟨wd.stops H2 G2 g2 r2.gh, ?_⟩
    obtain ⟨G3, g3, hD3, r4⟩ := out g2 r2
    refine ec H2 G3 (g2.trans g3) r4 (.ref Dd) (.lst hD3 ?_)
    rw [List.append_nil]
    exact hacc.mono g3
theorem d_lcx {elt tg iter : Expr} {scope : Scope} {own : List (Str × Nat)} {mi : M (List D)} {t : TG} {g : Tg} {ix : List Nat} {me : M D} (hc : X.calm = true) (hN : X.N.Nodup) (tk : TkL X L W) (hi : DI X C W tg iter mi) (ok : BlkOk X.N X.env.scope scope own)
    (hg : ∀ (s : Shared) (H : Hp) (Ca : Addr) (cl : List (Str × Addr)) (fp : List Addr) (xe : Value → Shared → Prop), DG ((X.blk s H scope (compEnvC scope cl Ca X.env) fp).wish xe) C tg t g ix)
    (he : ∀ (s : Shared) (H : Hp) (Ca : Addr) (cl : List (Str × Addr)) (fp : List Addr) (xe : Value → Shared → Prop) (σ : L2.St), TkL ((X.blk s H scope (compEnvC scope cl Ca X.env) fp).wish xe) L (fun cls d _ H => W cls d σ H) → DE ((X.blk s H scope (compEnvC scope cl Ca X.env) fp).wish xe) C (fun cls d _ H => W cls d σ H) elt me)
    (hix : ∀ i ∈ ix, i ∈ own.map (·.2) := by decide) (hs : ∀ x, foldedSetIterable iter X.env x = pure x := by intro _; rfl) :
    DE X C W (.ListComp elt [⟨tg, iter, [], 0⟩] scope pos) (eLCx (own.map (·.2)) mi g me) := by
  obtain ⟨wi, i1, i2⟩ := hi.ex
  refine ⟨⟨fun pins s σ H Q I q => ?_⟩⟩
  have hok : TGok C t g (own.map (·.2)) := fun B G0 G H a a' σ v d Q r hv e q => (DG.ok (hg s H 0 [] [] X.xe)) B G0 G H a a' σ v d Q r hv e fun σ' r' w => q σ' r' fun vs h => w vs fun i hi => h i (hix i hi)
  exact (PE.weak (pe_lcx hc hN i1 ok tk (fun s H Ca cl fp xe => (hg s H Ca cl fp xe).pg) (fun s H Ca cl fp xe σ t => (he s H Ca cl fp xe σ t).pe) hs) fun σ H Q q => lcx_ok (C := C) (W := W) i2 hok q).run pins s σ H Q I q
/-- a call in a block that may raise -/
theorem d_callL0 {e : Expr} {es : List Expr} {x : Str} {ps : List Str} {k : Nat} {F : Fn} {m : M (List D)} {p : Pos} (f : Dfn X.prog X.w X.K X.mg X.base C x ps k F) (hr : Room k X.A) (tk : TkL X L W) (ha : DA X C W (e :: es) m) (hg : Gl X x := by rfl)
    (hdb : (x == ("__debug__" : Str)) = false := by decide) (he : starEach (e :: es) X.env = (false, eval e X.env) :: starEach es X.env := by rfl) (hpl : (backTo pos (starEach es X.env)).any (·.1) = false := by rfl) :
    DE X C W (.Call (.Name x p) (e :: es) [] pos) (eCall F m) := by
  obtain ⟨f, fd, h1, h2, h3, h4⟩ := f.ex
  exact ⟨PE.weak (pe_callS h4 hr hg h1 h2 h3 (fun σ => tk.passAt σ) ha.pa hdb he hpl) fun σ H Q ⟨G, q⟩ => ⟨G, run_imp (run_bind q) fun _ _ H1 G1 ds g q vs hvs => run_call hvs q⟩⟩
end
end DL
end
section
set_option Elab.async false
set_option linter.all false
set_option maxRecDepth 100000
set_option maxHeartbeats 4000000
namespace DL.NA
noncomputable section
open PySem PySem.Spec PyProof.Rows L2
def b_is_whole : MS :=
  (sRet (vAnd (isiF "int" (rd 0)) (vNot (isiF "bool" (rd 0)))))
def m_is_whole : Fn := mkF 1 1 b_is_whole
def b_between : MS :=
  (sRet (vAnd (eCall m_is_whole (aCons (rd 0) aNil)) (e3c leI leI (rd 1) (rd 0) (rd 2))))
def m_between : Fn := mkF 3 3 b_between
def b_is_word : MS :=
  (sSeq (sIf (bOr (bNot (mB (isiF "tuple" (rd 0)))) (mB (e2 gtI (eN lenF (aCons (rd 0) aNil)) (rd 2)))) (sRet (eC (.bl false))) RS.nx)
  (sRet (eN allF (aCons (eLC [3] (mIt (rd 0)) (gN 3) (M.pure true) (eCall m_between (aCons (rd 3) (aCons (eC (.int 0)) (aCons (e2 subI (rd 1) (eC (.int 1))) aNil))))) aNil))))
def m_is_word : Fn := mkF 3 4 b_is_word
def b_is_book : MS :=
  (sSeq (sIf (bOr (bNot (mB (isiF "tuple" (rd 0)))) (bOr (mB (e2 neF (eN lenF (aCons (rd 0) aNil)) (eC (.int 2)))) (bNot (mB (eCall m_between (aCons (e2 ixF (rd 0) (eC (.int 0))) (aCons (eC (.int 1)) (aCons (eC (.int 3)) aNil)))))))) (sRet (eC (.bl false))) RS.nx)
  (sSeq (sIf (bOr (bNot (mB (isiF "tuple" (e2 ixF (rd 0) (eC (.int 1)))))) (bNot (mB (e3c leI leI (eC (.int 1)) (eN lenF (aCons (e2 ixF (rd 0) (eC (.int 1))) aNil)) (eC (.int 5)))))) (sRet (eC (.bl false))) RS.nx)
  (sRet (eN allF (aCons (eLC [1] (mIt (e2 ixF (rd 0) (eC (.int 1)))) (gN 1) (M.pure true) (eCall m_is_word (aCons (rd 1) (aCons (e2 ixF (rd 0) (eC (.int 0))) (aCons (eC (.int 6)) aNil))))) aNil)))))
def m_is_book : Fn := mkF 1 2 b_is_book
def b_checked : MS :=
  (sSeq (sIf (bNot (mB (eCall m_is_book (aCons (rd 0) aNil)))) (RS.exc 1) RS.nx)
  (sRet (rd 0)))
def m_checked : Fn := mkF 1 1 b_checked
def b_need_even : MS :=
  (sSeq (sDrop (eCall m_checked (aCons (rd 0) aNil)))
  (sIf (bNot (mB (eN allF (aCons (eLC [1] (mIt (e2 ixF (rd 0) (eC (.int 1)))) (gN 1) (M.pure true) (e2 eqF (eN lenF (aCons (rd 1) aNil)) (eN lenF (aCons (e2 ixF (e2 ixF (rd 0) (eC (.int 1))) (eC (.int 0))) aNil)))) aNil)))) (RS.exc 2) RS.nx))
def m_need_even : Fn := mkF 1 2 b_need_even
def b_length_of : MS :=
  (sRet (eN lenF (aCons (e2 ixF (e2 ixF (rd 0) (eC (.int 1))) (eC (.int 0))) aNil)))
def m_length_of : Fn := mkF 1 1 b_length_of
def b__law_cell_at : MS :=
  (sSeq (sIf (mB (e2 ltI (rd 1) (eN lenF (aCons (rd 0) aNil)))) (sRet (e2 ixF (rd 0) (rd 1))) RS.nx)
  (sSeq (sIf (mB (e2 eqF (rd 0) (eN lstF aNil))) (sRet (eC (.int 0))) RS.nx)
  (sRet (e2 addF (e2 mulI (e2 ixF (rd 0) (e2 modI (rd 1) (eN lenF (aCons (rd 0) aNil)))) (eC (.int 31))) (rd 1)))))
def m__law_cell_at : Fn := mkF 2 2 b__law_cell_at
def b__law_mixed : MS :=
  (sSeq (sAsg (e2 modI (e2 mulI (e2 addF (e2 addF (eCall m__law_cell_at (aCons (rd 0) (aCons (rd 1) aNil))) (e2 mulI (eC (.int 7919)) (rd 1))) (eC (.int 1))) (eC (.int 48271))) (eC (.int 2147483647))) (gN 3))
  (sRet (e2 modI (e2 modI (e2 addF (e2 addF (e2 mulI (rd 3) (rd 3)) (e2 mulI (eC (.int 7)) (rd 3))) (rd 1)) (eC (.int 2147483629))) (rd 2))))
def m__law_mixed : Fn := mkF 3 4 b__law_mixed
def b__law_word : MS :=
  (sRet (eN tupleF (aCons (eLC [4] (M.bind (aCons (rd 3) aNil) fun ds => lft (rng1F ds)) (gN 4) (M.pure true) (eCall m__law_mixed (aCons (rd 0) (aCons (e2 addF (rd 1) (rd 4)) (aCons (rd 2) aNil))))) aNil)))
def m__law_word : Fn := mkF 4 5 b__law_word
def b__law_even : MS :=
  (sSeq (sAsg (e2 ixF (eN lstF (aCons (eC (.int 2)) (aCons (eC (.int 3)) (aCons (eC (.int 3)) (aCons (eC (.int 2)) (aCons (eC (.int 1)) aNil)))))) (eCall m__law_mixed (aCons (rd 0) (aCons (rd 1) (aCons (eC (.int 5)) aNil))))) (gN 4))
  (sSeq (sAsg (e2 addF (eC (.int 1)) (eCall m__law_mixed (aCons (rd 0) (aCons (e2 addF (rd 1) (eC (.int 1))) (aCons (rd 2) aNil))))) (gN 5))
  (sSeq (sAsg (eCall m__law_mixed (aCons (rd 0) (aCons (e2 addF (rd 1) (eC (.int 2))) (aCons (e2 addF (rd 3) (eC (.int 1))) aNil)))) (gN 6))
  (sSeq (sIf (bAnd (mB (e2 ltI (rd 6) (eC (.int 2)))) (mB (e2 eqF (eCall m__law_mixed (aCons (rd 0) (aCons (e2 addF (rd 1) (eC (.int 3))) (aCons (eC (.int 2)) aNil)))) (eC (.int 1))))) (sAsg (rd 3) (gN 6)) RS.nx)
  (sRet (eN tupF (aCons (rd 4) (aCons (eN tupleF (aCons (eLC [7] (M.bind (aCons (rd 5) aNil) fun ds => lft (rng1F ds)) (gN 7) (M.pure true) (eCall m__law_word (aCons (rd 0) (aCons (e2 addF (e2 addF (rd 1) (eC (.int 4))) (e2 mulI (eC (.int 7)) (rd 7))) (aCons (rd 4) (aCons (rd 6) aNil)))))) aNil)) aNil))))))))
def m__law_even : Fn := mkF 4 8 b__law_even
def b__law_any : MS :=
  (sSeq (sAsg (e2 ixF (eN lstF (aCons (eC (.int 2)) (aCons (eC (.int 3)) (aCons (eC (.int 2)) (aCons (eC (.int 1)) aNil))))) (eCall m__law_mixed (aCons (rd 0) (aCons (rd 1) (aCons (eC (.int 4)) aNil))))) (gN 4))
  (sSeq (sOwn Slot.own (M.bind aNil fun xs => lft (ownF xs)) 5)
  (sSeq (sFor (M.bind (aCons (e2 addF (eC (.int 1)) (eCall m__law_mixed (aCons (rd 0) (aCons (e2 addF (rd 1) (eC (.int 1))) (aCons (rd 2) aNil))))) aNil) fun ds => lft (rng1F ds)) (gN 6) (sDrop (eMut 5 appF (aCons (eCall m__law_word (aCons (rd 0) (aCons (e2 addF (e2 addF (rd 1) (eC (.int 3))) (e2 mulI (eC (.int 7)) (rd 6))) (aCons (rd 4) (aCons (eCall m__law_mixed (aCons (rd 0) (aCons (e2 addF (e2 addF (rd 1) (eC (.int 2))) (e2 mulI (eC (.int 7)) (rd 6))) (aCons (e2 addF (rd 3) (eC (.int 1))) aNil)))) aNil))))) aNil))))
  (sRet (eN tupF (aCons (rd 4) (aCons (eN tupleF (aCons (rd 5) aNil)) aNil)))))))
def m__law_any : Fn := mkF 4 7 b__law_any
def b__law_apart : MS :=
  (sRet (eN sumF (aCons (eLC [2, 3] (M.bind (aCons (rd 0) (aCons (rd 1) aNil)) fun ds => lft (zipF ds)) (gT (gConss (gN 2) (gConss (gN 3) gNils)) 2) (M.pure true) (eN intF (aCons (e2 neF (rd 2) (rd 3)) aNil))) aNil)))
def m__law_apart : Fn := mkF 2 4 b__law_apart
def b__law_words : MS :=
  (sSeq (sAsg (eN lstF (aCons (eN tupF aNil) aNil)) (gN 2))
  (sSeq (sFor (M.bind (aCons (rd 1) aNil) fun ds => lft (rng1F ds)) (gN 3) (sSeq (sOwn Slot.own (M.bind aNil fun xs => lft (ownF xs)) 4)
  (sSeq (sFor (mIt (rd 2)) (gN 5) (sDrop (eMut 4 extF (aCons (eLC [6] (M.bind (aCons (rd 0) aNil) fun ds => lft (rng1F ds)) (gN 6) (M.pure true) (e2 addF (rd 5) (eN tupF (aCons (rd 6) aNil)))) aNil))))
  (sAsg (rd 4) (gN 2)))))
  (sRet (rd 2))))
def m__law_words : Fn := mkF 2 7 b__law_words
def b_costs_at : MS :=
  (sRet (eLC [3] (M.bind (aCons (e2 ixF (rd 0) (eC (.int 0))) aNil) fun ds => lft (rng1F ds)) (gN 3) (M.pure true) (eN lenF (aCons (eLC [2] (mIt (e2 ixF (rd 0) (eC (.int 1)))) (gN 2) (mB (e2 neF (e2 ixF (rd 2) (rd 1)) (rd 3))) (rd 2)) aNil))))
def m_costs_at : Fn := mkF 2 4 b_costs_at
def b_least_sum : MS :=
  (sSeq (sDrop (eCall m_need_even (aCons (rd 0) aNil)))
  (sSeq (sAsg (eLC [2] (M.bind (aCons (eCall m_length_of (aCons (rd 0) aNil)) aNil) fun ds => lft (rng1F ds)) (gN 2) (M.pure true) (eCall m_costs_at (aCons (rd 0) (aCons (rd 2) aNil)))) (gN 1))
  (sRet (eN tupF (aCons (eN sumF (aCons (eLC [3] (mIt (rd 1)) (gN 3) (M.pure true) (eN minF (aCons (rd 3) aNil))) aNil)) (aCons (eN tupleF (aCons (eLC [3] (mIt (rd 1)) (gN 3) (M.pure true) (eM "list" indexF (rd 3) (aCons (eN minF (aCons (rd 3) aNil)) aNil))) aNil)) aNil))))))
def m_least_sum : Fn := mkF 1 4 b_least_sum
def b_count_least_sum : MS :=
  (sSeq (sDrop (eCall m_need_even (aCons (rd 0) aNil)))
  (sSeq (sAsg (eC (.int 1)) (gN 1))
  (sSeq (sFor (M.bind (aCons (eCall m_length_of (aCons (rd 0) aNil)) aNil) fun ds => lft (rng1F ds)) (gN 2) (sSeq (sAsg (eCall m_costs_at (aCons (rd 0) (aCons (rd 2) aNil))) (gN 3))
  (sAsg (e2 mulI (rd 1) (eM "list" countF (rd 3) (aCons (eN minF (aCons (rd 3) aNil)) aNil))) (gN 1))))
  (sRet (rd 1)))))
def m_count_least_sum : Fn := mkF 1 4 b_count_least_sum
def b_text_of : MS :=
  (sSeq (sAsg (eN strNF (aCons (e2 ixF (rd 0) (eC (.int 0))) aNil)) (gN 1))
  (sSeq (sFor (mIt (e2 ixF (rd 0) (eC (.int 1)))) (gN 2) (sAsg (e2 addF (e2 addF (rd 1) (eC (.str "/"))) (eM "str" joinF (eC (.str "")) (aCons (eLC [3] (mIt (rd 2)) (gN 3) (M.pure true) (eN strNF (aCons (rd 3) aNil))) aNil))) (gN 1)))
  (sRet (rd 1))))
def m_text_of : Fn := mkF 1 4 b_text_of
def b_shown : MS :=
  (sRet (eCall m_text_of (aCons (eCall m_checked (aCons (rd 0) aNil)) aNil)))
def m_shown : Fn := mkF 1 1 b_shown
def b_letter_of : MS :=
  (sSeq (sIf (mB (e2 ninSF (rd 0) (eC (.str "012")))) (RS.exc 9) RS.nx)
  (sRet (eN intSF (aCons (rd 0) aNil))))
def m_letter_of : Fn := mkF 1 1 b_letter_of
def b_read : MS :=
  (sSeq (sIf (bNot (mB (isiF "str" (rd 0)))) (RS.exc 9) RS.nx)
  (sSeq (sAsg (eM "str" splitF (rd 0) (aCons (eC (.str "/")) aNil)) (gN 1))
  (sSeq (sIf (mB (e2 ninX (e2 ixF (rd 1) (eC (.int 0))) (eN tupF (aCons (eC (.str "1")) (aCons (eC (.str "2")) (aCons (eC (.str "3")) aNil)))))) (RS.exc 9) RS.nx)
  (sSeq (sAsg (eN tupF (aCons (eN intSF (aCons (e2 ixF (rd 1) (eC (.int 0))) aNil)) (aCons (eN tupleF (aCons (eLCx [4] (mIt (eCut (rd 1) (M.bind (eC (.int 1)) fun d => lft ((asI d).map some)) (M.pure none))) (gN 4) (eN tupleF (aCons (eLCx [3] (mIt (rd 4)) (gN 3) (eCall m_letter_of (aCons (rd 3) aNil))) aNil))) aNil)) aNil))) (gN 2))
  (sSeq (sIf (bNot (mB (eCall m_is_book (aCons (rd 2) aNil)))) (RS.exc 9) RS.nx)
  (sRet (rd 2)))))))
def m_read : Fn := mkF 1 5 b_read
def b__law_text : MS :=
  (sSeq (sAsg (eN strNF (aCons (e2 ixF (rd 0) (eC (.int 0))) aNil)) (gN 1))
  (sSeq (sFor (mIt (e2 ixF (rd 0) (eC (.int 1)))) (gN 2) (sSeq (sAsg (e2 addF (rd 1) (eC (.str "/"))) (gN 1))
  (sFor (mIt (rd 2)) (gN 3) (sAsg (e2 addF (rd 1) (eN strNF (aCons (rd 3) aNil))) (gN 1)))))
  (sRet (rd 1))))
def m__law_text : Fn := mkF 1 4 b__law_text
def b__law_due : MS :=
  (sSeq (sIf (bOr (bNot (mB (isiF "str" (rd 0)))) (mB (e2 ninX (eCut (rd 0) (M.pure none) (M.bind (eC (.int 1)) fun d => lft ((asI d).map some))) (eN tupF (aCons (eC (.str "1")) (aCons (eC (.str "2")) (aCons (eC (.str "3")) aNil))))))) (sRet (eC .non)) RS.nx)
  (sSeq (sOwn Slot.own (M.bind aNil fun xs => lft (ownF xs)) 1)
  (sSeq (sFor (mIt (eCut (rd 0) (M.bind (eC (.int 1)) fun d => lft ((asI d).map some)) (M.pure none))) (gN 2) (sIf (mB (e2 eqF (rd 2) (eC (.str "/")))) (sDrop (eMut 1 appF (aCons (eN tupF aNil) aNil))) (sIf (bOr (mB (e2 ninX (rd 2) (eN tupF (aCons (eC (.str "0")) (aCons (eC (.str "1")) (aCons (eC (.str "2")) aNil)))))) (mB (chk 1 (M.bind (eN lstF aNil) fun j => look 1 fun d => eqF d j)))) (sRet (eC .non)) (sDrop (eSetL 1 (e2 addF (chk 1 (M.bind (e1 negI (eC (.int 1))) fun j => look 1 fun d => ixF d j)) (eN tupF (aCons (eN intSF (aCons (rd 2) aNil)) aNil))) (e1 negI (eC (.int 1))))))))
  (sTryN [1, 9] (sRet (eCall m_checked (aCons (eN tupF (aCons (eN intSF (aCons (e2 ixF (rd 0) (eC (.int 0))) aNil)) (aCons (eN tupleF (aCons (rd 1) aNil)) aNil))) aNil))) 1 (sRet (eC .non))))))
def m__law_due : Fn := mkF 1 3 b__law_due
def b__law_spoilt_k23 : MS :=
  (sSeq (sAsg (e2 modI (rd 1) (e2 addF (eN lenF (aCons (rd 0) aNil)) (eC (.int 1)))) (gN 3))
  (sSeq (sAsg (e2 ixF (eC (.str "/01234-Ax ")) (e2 modI (e2 divI (rd 1) (eC (.int 1000))) (eC (.int 10)))) (gN 4))
  (sSeq (sAsg (e2 modI (e2 divI (rd 1) (eC (.int 40000))) (eC (.int 6))) (gN 5))
  (sSeq (sIf (mB (e2 eqF (rd 5) (eC (.int 0)))) (sRet (e2 addF (e2 addF (eCut (rd 0) (M.pure none) (M.bind (rd 3) fun d => lft ((asI d).map some))) (rd 4)) (eCut (rd 0) (M.bind (rd 3) fun d => lft ((asI d).map some)) (M.pure none)))) RS.nx)
  (sSeq (sIf (mB (e2 eqF (rd 5) (eC (.int 1)))) (sRet (e2 addF (eCut (rd 0) (M.pure none) (M.bind (rd 3) fun d => lft ((asI d).map some))) (eCut (rd 0) (M.bind (e2 addF (rd 3) (eC (.int 1))) fun d => lft ((asI d).map some)) (M.pure none)))) RS.nx)
  (sSeq (sIf (mB (e2 eqF (rd 5) (eC (.int 2)))) (sRet (e2 addF (e2 addF (eCut (rd 0) (M.pure none) (M.bind (rd 3) fun d => lft ((asI d).map some))) (rd 4)) (eCut (rd 0) (M.bind (e2 addF (rd 3) (eC (.int 1))) fun d => lft ((asI d).map some)) (M.pure none)))) RS.nx)
  (sSeq (sIf (mB (e2 eqF (rd 5) (eC (.int 3)))) (sRet (e2 addF (eCut (rd 0) (M.pure none) (M.bind (rd 3) fun d => lft ((asI d).map some))) (eCut (rd 0) (M.bind (e2 addF (rd 3) (e2 modI (e2 divI (rd 1) (eC (.int 7))) (eC (.int 9)))) fun d => lft ((asI d).map some)) (M.pure none)))) RS.nx)
  (sSeq (sIf (mB (e2 eqF (rd 5) (eC (.int 4)))) (sRet (e2 ixF (eN lstF (aCons (e2 addF (rd 0) (rd 0)) (aCons (e2 addF (eCut (rd 0) (M.bind (rd 3) fun d => lft ((asI d).map some)) (M.pure none)) (eCut (rd 0) (M.pure none) (M.bind (rd 3) fun d => lft ((asI d).map some)))) (aCons (e2 addF (eC (.str " ")) (rd 0)) (aCons (e2 addF (rd 0) (eC (.str " "))) aNil))))) (e2 modI (rd 1) (eC (.int 4))))) RS.nx)
  (sRet (e2 ixF (rd 2) (e2 modI (rd 1) (eN lenF (aCons (rd 2) aNil)))))))))))))
def m__law_spoilt_k23 : Fn := mkF 3 6 b__law_spoilt_k23
def b_law_k23 : MS :=
  (sSeq (sAsg (eCall m__law_any (aCons (rd 0) (aCons (eC (.int 2)) (aCons (eC (.int 5)) (aCons (eC (.int 6)) aNil))))) (gN 1))
  (sSeq (sAsg (eCall m_shown (aCons (rd 1) aNil)) (gN 2))
  (sSeq (sIf (bOr (bNot (mB (isiF "str" (rd 2)))) (bOr (mB (e2 neF (rd 2) (eCall m__law_text (aCons (rd 1) aNil)))) (mB (e2 neF (eCall m_read (aCons (rd 2) aNil)) (rd 1))))) (sRet (eC (.bl false))) RS.nx)
  (sSeq (sOwn Slot.own (M.bind (aCons (eC (.str "3")) (aCons (eC (.str "4/0")) (aCons (eC (.str "0/")) (aCons (eC (.str "1/1")) (aCons (eC (.str "2/////")) (aCons (eC (.str "2//////")) (aCons (eC (.str "3/0000000")) (aCons (eC (.str "")) (aCons (eC .non) (aCons (eC (.int 5)) (aCons (eN lstF (aCons (rd 2) aNil)) aNil))))))))))) fun xs => lft (ownF xs)) 3)
  (sSeq (sDrop (eMut 3 extF (aCons (eN lstF (aCons (eC (.str "12/0")) (aCons (eC (.str "2/0/\n")) (aCons (eC (.str "/0")) (aCons (eC (.str "3/")) (aCons (eC (.str "03/0")) aNil)))))) aNil)))
  (sSeq (sAsg (eCall m__law_spoilt_k23 (aCons (rd 2) (aCons (eCall m__law_mixed (aCons (rd 0) (aCons (eC (.int 0)) (aCons (e2 powI (eC (.int 10)) (eC (.int 7))) aNil)))) (aCons (rd 3) aNil)))) (gN 2))
  (sSeq (sAsg (eC .non) (gN 4))
  (sSeq (sTry [1, 9] (sAsg (eCall m_read (aCons (rd 2) aNil)) (gN 4)) [(9, 5, fun ec ea => (sIf (bOr (bNot (mB (isE 5 ea (subE ec 0)))) (bOr (bNot (mB (isE 5 ea (subE ec 100)))) (mB (isE 5 ea (subE ec 1))))) (sRet (eC (.bl false))) RS.nx))])
  (sRet (e2 eqF (rd 4) (eCall m__law_due (aCons (rd 2) aNil))))))))))))
def m_law_k23 : Fn := mkF 1 6 b_law_k23
end
end DL.NA
end
section
set_option Elab.async false
set_option linter.all false
set_option maxRecDepth 100000
set_option maxHeartbeats 4000000
namespace DL.K23
open PySem PySem.Spec PyProof.Rows L2
open NA
structure Bt (mg : Str → Option Value) : Prop where
  ValueError : mg "ValueError" = none
  all : mg "all" = none
  bool_ : mg "bool" = none
  int_ : mg "int" = none
  isinstance : mg "isinstance" = none
  len : mg "len" = none
  range : mg "range" = none
  str_ : mg "str" = none
  tuple_ : mg "tuple" = none
def topS (i : Nat) : Stmt := PySem.Challenge.pw_nearall_k23_texts.main.body.getD i (.Pass ⟨0, 0, 0, 0⟩)
section
variable {P : Program} {w : World} {mg : Str → Option Value} {base : Heap} {C : Cf}
theorem sc__law_cell_at : FnScope ["_law_script", "_law_k"] ["_law_script", "_law_k"] (defScope (topS 18)) := ⟨rfl, rfl, rfl, by decide +kernel, rfl, by decide +kernel, by decide +kernel⟩
theorem ok__law_cell_at {f : Addr} {fd : FuncData} (F : Fun C.K "_law_cell_at" "_law_cell_at" (topS 18) f fd) (b : Bt mg) :
    FnOk P w C.K mg base (L2.CX P w) 1 f fd ["_law_script", "_law_k"] (spD C m__law_cell_at) :=
  d_fn F sc__law_cell_at fun cdv A outer s H E hr tk hp => by
    have nd := (sc__law_cell_at).nd
    have hu65 := hu65_of hr
    exact (ds_cons (d_if (dt_cmp op_lt o_lt (d_rd 1) (d_callB call_len o_len b.len (by decide +kernel) (da_cons (d_rd 0) da_nil)) (nomark _)) (ds_one (d_ret (d_ix ix_seq o_ix (d_rd 0) (d_rd 1)))) ds_nil)
  (ds_cons (d_if (dt_cmp (op_eqD hr.units) o_eq (d_rd 0) (d_lst da_nil) (nomark _)) (ds_one (d_ret d_int)) ds_nil)
  (ds_one (d_ret (d_op op_addX o_addX (d_op op_mul o_mul (d_ix ix_seq o_ix (d_rd 0) (d_op op_mod o_mod (d_rd 1) (d_callB call_len o_len b.len (by decide +kernel) (da_cons (d_rd 0) da_nil)))) d_int) (d_rd 1))))))
theorem sc__law_mixed : FnScope ["_law_script", "_law_k", "_law_many", "_law_drawn"] ["_law_script", "_law_k", "_law_many"] (defScope (topS 19)) := ⟨rfl, rfl, rfl, by decide +kernel, rfl, by decide +kernel, by decide +kernel⟩
theorem ok__law_mixed {f : Addr} {fd : FuncData} (F : Fun C.K "_law_mixed" "_law_mixed" (topS 19) f fd) (b : Bt mg)
    (f__law_cell_at : Dfn P w C.K mg base C "_law_cell_at" ["_law_script", "_law_k"] 1 m__law_cell_at) :
    FnOk P w C.K mg base (L2.CX P w) 2 f fd ["_law_script", "_law_k", "_law_many"] (spD C m__law_mixed) :=
  d_fn F sc__law_mixed fun cdv A outer s H E hr tk hp => by
    have nd := (sc__law_mixed).nd
    have hu65 := hu65_of hr
    exact (ds_cons (d_asg (d_op op_mod o_mod (d_op op_mul o_mul (d_op op_addX o_addX (d_op op_addX o_addX (d_call f__law_cell_at (hr.mono (by decide)) tk (da_cons (d_rd 0) (da_cons (d_rd 1) da_nil))) (d_op op_mul o_mul d_int (d_rd 1))) d_int) d_int) d_int) (dg_name nd (i := 3)))
  (ds_one (d_ret (d_op op_mod o_mod (d_op op_mod o_mod (d_op op_addX o_addX (d_op op_addX o_addX (d_op op_mul o_mul (d_rd 3) (d_rd 3)) (d_op op_mul o_mul d_int (d_rd 3))) (d_rd 1)) d_int) (d_rd 2)))))
theorem sc__law_word : FnScope ["_law_script", "_law_at", "_law_letters", "_law_size", "_law_k"] ["_law_script", "_law_at", "_law_letters", "_law_size"] (defScope (topS 20)) := ⟨rfl, rfl, rfl, by decide +kernel, rfl, by decide +kernel, by decide +kernel⟩
theorem ok__law_word {f : Addr} {fd : FuncData} (F : Fun C.K "_law_word" "_law_word" (topS 20) f fd) (b : Bt mg)
    (f__law_mixed : Dfn P w C.K mg base C "_law_mixed" ["_law_script", "_law_k", "_law_many"] 2 m__law_mixed) :
    FnOk P w C.K mg base (L2.CX P w) 3 f fd ["_law_script", "_law_at", "_law_letters", "_law_size"] (spD C m__law_word) :=
  d_fn F sc__law_word fun cdv A outer s H E hr tk hp => by
    have nd := (sc__law_word).nd
    have hu65 := hu65_of hr
    exact (ds_one (d_ret (d_callTy call_tuple_of o_tuple b.tuple_ (by decide +kernel) (da_cons (d_lc (own := [("_law_k", 4)]) rfl nd (di_range1 b.range (da_cons (d_rd 3) da_nil)) (blkOk_by (by kernel_rfl)) (fun _ _ _ _ _ => (dg_name nd (i := 4))) (fun _ _ _ _ _ => dts_nil) (fun _ _ _ _ _ => (d_call f__law_mixed (hr.mono (by decide)) takes0 (da_cons (d_rd 0) (da_cons (d_op op_addX o_addX (d_rd 1) (d_rd 4)) (da_cons (d_rd 2) da_nil)))))) da_nil))))
theorem sc__law_any : FnScope ["_law_script", "_law_at", "_law_words", "_law_most", "_law_letters", "_law_rows", "_law_k"] ["_law_script", "_law_at", "_law_words", "_law_most"] (defScope (topS 21)) := ⟨rfl, rfl, rfl, by decide +kernel, rfl, by decide +kernel, by decide +kernel⟩
theorem ok__law_any {f : Addr} {fd : FuncData} (F : Fun C.K "_law_any" "_law_any" (topS 21) f fd) (b : Bt mg)
    (f__law_mixed : Dfn P w C.K mg base C "_law_mixed" ["_law_script", "_law_k", "_law_many"] 2 m__law_mixed)
    (f__law_word : Dfn P w C.K mg base C "_law_word" ["_law_script", "_law_at", "_law_letters", "_law_size"] 3 m__law_word) :
    FnOk P w C.K mg base (L2.CX P w) 4 f fd ["_law_script", "_law_at", "_law_words", "_law_most"] (spD C m__law_any) :=
  d_fn F sc__law_any fun cdv A outer s H E hr tk hp => by
    have nd := (sc__law_any).nd
    have hu65 := hu65_of hr
    exact (ds_cons (d_asg (d_ix ix_seq o_ix (d_lst (da_cons d_int (da_cons d_int (da_cons d_int (da_cons d_int da_nil))))) (d_call f__law_mixed (hr.mono (by decide)) tk (da_cons (d_rd 0) (da_cons (d_rd 1) (da_cons d_int da_nil))))) (dg_name nd (i := 4)))
  (ds_cons (d_own (df_lst da_nil) nd (i := 5))
  (ds_cons (d_for hp rfl (di_range1 b.range (da_cons (d_op op_addX o_addX d_int (d_call f__law_mixed (hr.mono (by decide)) tk (da_cons (d_rd 0) (da_cons (d_op op_addX o_addX (d_rd 1) d_int) (da_cons (d_rd 2) da_nil))))) da_nil)) (dg_name nd (i := 6)) (ds_one (d_expr (d_mut 5 rfl PySem.F.slot_list_append PySem.F.type_list_append mt_append mu_app (da_cons (d_call f__law_word (hr.mono (by decide)) tk (da_cons (d_rd 0) (da_cons (d_op op_addX o_addX (d_op op_addX o_addX (d_rd 1) d_int) (d_op op_mul o_mul d_int (d_rd 6))) (da_cons (d_rd 4) (da_cons (d_call f__law_mixed (hr.mono (by decide)) tk (da_cons (d_rd 0) (da_cons (d_op op_addX o_addX (d_op op_addX o_addX (d_rd 1) d_int) (d_op op_mul o_mul d_int (d_rd 6))) (da_cons (d_op op_addX o_addX (d_rd 3) d_int) da_nil)))) da_nil))))) da_nil)))))
  (ds_one (d_ret (d_tup (da_cons (d_rd 4) (da_cons (d_callTy call_tuple_of o_tuple b.tuple_ (by decide +kernel) (da_cons (d_rd 5) da_nil)) da_nil))))))))
theorem sc_is_whole : FnScope ["thing"] ["thing"] (defScope (topS 7)) := ⟨rfl, rfl, rfl, by decide +kernel, rfl, by decide +kernel, by decide +kernel⟩
theorem ok_is_whole {f : Addr} {fd : FuncData} (F : Fun C.K "is_whole" "is_whole" (topS 7) f fd) (b : Bt mg) :
    FnOk P w C.K mg base (L2.CX P w) 1 f fd ["thing"] (spD C m_is_whole) :=
  d_fn F sc_is_whole fun cdv A outer s H E hr tk hp => by
    have nd := (sc_is_whole).nd
    have hu65 := hu65_of hr
    exact (ds_one (d_ret (de_and (d_isi rfl b.isinstance b.int_ (by decide +kernel) (d_rd 0)) (de_one (de_not (d_isi rfl b.isinstance b.bool_ (by decide +kernel) (d_rd 0)))))))
theorem sc_between : FnScope ["thing", "low", "most"] ["thing", "low", "most"] (defScope (topS 8)) := ⟨rfl, rfl, rfl, by decide +kernel, rfl, by decide +kernel, by decide +kernel⟩
theorem ok_between {f : Addr} {fd : FuncData} (F : Fun C.K "between" "between" (topS 8) f fd) (b : Bt mg)
    (f_is_whole : Dfn P w C.K mg base C "is_whole" ["thing"] 1 m_is_whole) :
    FnOk P w C.K mg base (L2.CX P w) 2 f fd ["thing", "low", "most"] (spD C m_between) :=
  d_fn F sc_between fun cdv A outer s H E hr tk hp => by
    have nd := (sc_between).nd
    have hu65 := hu65_of hr
    exact (ds_one (d_ret (de_and (d_call f_is_whole (hr.mono (by decide)) tk (da_cons (d_rd 0) da_nil)) (de_one (de_chain op_le op_le o_le o_le (d_rd 1) (d_rd 0) (d_rd 2))))))
theorem sc_is_word : FnScope ["thing", "letters", "most", "letter"] ["thing", "letters", "most"] (defScope (topS 9)) := ⟨rfl, rfl, rfl, by decide +kernel, rfl, by decide +kernel, by decide +kernel⟩
theorem ok_is_word {f : Addr} {fd : FuncData} (F : Fun C.K "is_word" "is_word" (topS 9) f fd) (b : Bt mg)
    (f_between : Dfn P w C.K mg base C "between" ["thing", "low", "most"] 2 m_between) :
    FnOk P w C.K mg base (L2.CX P w) 3 f fd ["thing", "letters", "most"] (spD C m_is_word) :=
  d_fn F sc_is_word fun cdv A outer s H E hr tk hp => by
    have nd := (sc_is_word).nd
    have hu65 := hu65_of hr
    exact (ds_cons (d_if (DW.dt (dw_or (dt_not (dt_val (d_isi rfl b.isinstance b.tuple_ (by decide +kernel) (d_rd 0)))) (dw_or1 (dt_cmp op_gt o_gt (d_callB call_len o_len b.len (by decide +kernel) (da_cons (d_rd 0) da_nil)) (d_rd 2) (nomark _))))) (ds_one (d_ret d_bl)) ds_nil)
  (ds_one (d_ret (d_callB (cr_all rfl) o_all b.all (by decide +kernel) (da_cons (d_lc (own := [("letter", 3)]) rfl nd (di_any rfl (d_rd 0)) (blkOk_by (by kernel_rfl)) (fun _ _ _ _ _ => (dg_name nd (i := 3))) (fun _ _ _ _ _ => dts_nil) (fun _ _ _ _ _ => (d_call f_between (hr.mono (by decide)) takes0 (da_cons (d_rd 3) (da_cons d_int (da_cons (d_op op_sub o_sub (d_rd 1) d_int) da_nil)))))) da_nil)))))
theorem sc_is_book : FnScope ["thing", "word"] ["thing"] (defScope (topS 10)) := ⟨rfl, rfl, rfl, by decide +kernel, rfl, by decide +kernel, by decide +kernel⟩
theorem ok_is_book {f : Addr} {fd : FuncData} (F : Fun C.K "is_book" "is_book" (topS 10) f fd) (b : Bt mg) (hc_LENGTH : ∃ t, mg "LENGTH" = some (Value.int 6 t)) (hc_WORDS : ∃ t, mg "WORDS" = some (Value.int 5 t))
    (f_between : Dfn P w C.K mg base C "between" ["thing", "low", "most"] 2 m_between)
    (f_is_word : Dfn P w C.K mg base C "is_word" ["thing", "letters", "most"] 3 m_is_word) :
    FnOk P w C.K mg base (L2.CX P w) 4 f fd ["thing"] (spD C m_is_book) :=
  d_fn F sc_is_book fun cdv A outer s H E hr tk hp => by
    have nd := (sc_is_book).nd
    have hu65 := hu65_of hr
    exact (ds_cons (d_if (DW.dt (dw_or (dt_not (dt_val (d_isi rfl b.isinstance b.tuple_ (by decide +kernel) (d_rd 0)))) (dw_or (dt_cmp (op_neD hr.units) o_ne (d_callB call_len o_len b.len (by decide +kernel) (da_cons (d_rd 0) da_nil)) d_int (nomark _)) (dw_or1 (dt_not (dt_val (d_call f_between (hr.mono (by decide)) tk (da_cons (d_ix ix_seq o_ix (d_rd 0) d_int) (da_cons d_int (da_cons d_int da_nil)))))))))) (ds_one (d_ret d_bl)) ds_nil)
  (ds_cons (d_if (DW.dt (dw_or (dt_not (dt_val (d_isi rfl b.isinstance b.tuple_ (by decide +kernel) (d_ix ix_seq o_ix (d_rd 0) d_int)))) (dw_or1 (dt_not (dt_chain op_le op_le o_le o_le d_int (d_callB call_len o_len b.len (by decide +kernel) (da_cons (d_ix ix_seq o_ix (d_rd 0) d_int) da_nil)) (d_const hc_WORDS)))))) (ds_one (d_ret d_bl)) ds_nil)
  (ds_one (d_ret (d_callB (cr_all rfl) o_all b.all (by decide +kernel) (da_cons (d_lc (own := [("word", 1)]) rfl nd (di_any rfl (d_ix ix_seq o_ix (d_rd 0) d_int)) (blkOk_by (by kernel_rfl)) (fun _ _ _ _ _ => (dg_name nd (i := 1))) (fun _ _ _ _ _ => dts_nil) (fun _ _ _ _ _ => (d_call f_is_word (hr.mono (by decide)) takes0 (da_cons (d_rd 1) (da_cons (d_ix ix_seq o_ix (d_rd 0) d_int) (da_cons (d_const hc_LENGTH) da_nil)))))) da_nil))))))
theorem sc_checked : FnScope ["book"] ["book"] (defScope (topS 11)) := ⟨rfl, rfl, rfl, by decide +kernel, rfl, by decide +kernel, by decide +kernel⟩
theorem ok_checked {f : Addr} {fd : FuncData} (F : Fun C.K "checked" "checked" (topS 11) f fd) (b : Bt mg) (x_NoBook : XC C.K mg "NoBook" (C.xa 1))
    (f_is_book : Dfn P w C.K mg base C "is_book" ["thing"] 4 m_is_book) :
    FnOk P w C.K mg base (L2.CX P w) 5 f fd ["book"] (spD C m_checked) :=
  d_fn F sc_checked fun cdv A outer s H E hr tk hp => by
    have nd := (sc_checked).nd
    have hu65 := hu65_of hr
    exact (ds_cons (d_if (dt_not (dt_val (d_call f_is_book (hr.mono (by decide)) tk (da_cons (d_rd 0) da_nil)))) (ds_one (d_raise rfl tk x_NoBook)) ds_nil)
  (ds_one (d_ret (d_rd 0))))
theorem sc_text_of : FnScope ["book", "made", "word", "letter"] ["book"] (defScope (topS 13)) := ⟨rfl, rfl, rfl, by decide +kernel, rfl, by decide +kernel, by decide +kernel⟩
theorem ok_text_of {f : Addr} {fd : FuncData} (F : Fun C.K "text_of" "text_of" (topS 13) f fd) (b : Bt mg) :
    FnOk P w C.K mg base (L2.CX P w) 1 f fd ["book"] (spD C m_text_of) :=
  d_fn F sc_text_of fun cdv A outer s H E hr tk hp => by
    have nd := (sc_text_of).nd
    have hu65 := hu65_of hr
    exact (ds_cons (d_asg (d_callTy cr_strN o_strN b.str_ (by decide +kernel) (da_cons (d_ix ix_seq o_ix (d_rd 0) d_int) da_nil)) (dg_name nd (i := 1)))
  (ds_cons (d_for hp rfl (di_any rfl (d_ix ix_seq o_ix (d_rd 0) d_int)) (dg_name nd (i := 2)) (ds_one (d_asg (d_op op_addX o_addX (d_op op_addX o_addX (d_rd 1) d_str) (d_bm rfl PySem.F.plainAttrs_str PySem.F.slot_str_join PySem.F.type_str_join mt_joinL o_join d_str (da_cons (d_lc (own := [("letter", 3)]) rfl nd (di_any rfl (d_rd 2)) (blkOk_by (by kernel_rfl)) (fun _ _ _ _ _ => (dg_name nd (i := 3))) (fun _ _ _ _ _ => dts_nil) (fun _ _ _ _ _ => (d_callTy cr_strN o_strN b.str_ (by decide +kernel) (da_cons (d_rd 3) da_nil)))) da_nil))) (dg_name nd (i := 1)))))
  (ds_one (d_ret (d_rd 1)))))
theorem sc_shown : FnScope ["book"] ["book"] (defScope (topS 14)) := ⟨rfl, rfl, rfl, by decide +kernel, rfl, by decide +kernel, by decide +kernel⟩
theorem ok_shown {f : Addr} {fd : FuncData} (F : Fun C.K "shown" "shown" (topS 14) f fd) (b : Bt mg)
    (f_checked : Dfn P w C.K mg base C "checked" ["book"] 5 m_checked)
    (f_text_of : Dfn P w C.K mg base C "text_of" ["book"] 1 m_text_of) :
    FnOk P w C.K mg base (L2.CX P w) 6 f fd ["book"] (spD C m_shown) :=
  d_fn F sc_shown fun cdv A outer s H E hr tk hp => by
    have nd := (sc_shown).nd
    have hu65 := hu65_of hr
    exact (ds_one (d_ret (d_call f_text_of (hr.mono (by decide)) tk (da_cons (d_call f_checked (hr.mono (by decide)) tk (da_cons (d_rd 0) da_nil)) da_nil))))
theorem sc__law_text : FnScope ["_law_book", "_law_text_here", "_law_word_here", "_law_letter"] ["_law_book"] (defScope (topS 22)) := ⟨rfl, rfl, rfl, by decide +kernel, rfl, by decide +kernel, by decide +kernel⟩
theorem ok__law_text {f : Addr} {fd : FuncData} (F : Fun C.K "_law_text" "_law_text" (topS 22) f fd) (b : Bt mg) :
    FnOk P w C.K mg base (L2.CX P w) 1 f fd ["_law_book"] (spD C m__law_text) :=
  d_fn F sc__law_text fun cdv A outer s H E hr tk hp => by
    have nd := (sc__law_text).nd
    have hu65 := hu65_of hr
    exact (ds_cons (d_asg (d_callTy cr_strN o_strN b.str_ (by decide +kernel) (da_cons (d_ix ix_seq o_ix (d_rd 0) d_int) da_nil)) (dg_name nd (i := 1)))
  (ds_cons (d_for hp rfl (di_any rfl (d_ix ix_seq o_ix (d_rd 0) d_int)) (dg_name nd (i := 2)) (ds_cons (d_asg (d_op op_addX o_addX (d_rd 1) d_str) (dg_name nd (i := 1)))
  (ds_one (d_for hp rfl (di_any rfl (d_rd 2)) (dg_name nd (i := 3)) (ds_one (d_asg (d_op op_addX o_addX (d_rd 1) (d_callTy cr_strN o_strN b.str_ (by decide +kernel) (da_cons (d_rd 3) da_nil))) (dg_name nd (i := 1))))))))
  (ds_one (d_ret (d_rd 1)))))
theorem sc_letter_of : FnScope ["sign"] ["sign"] (defScope (topS 15)) := ⟨rfl, rfl, rfl, by decide +kernel, rfl, by decide +kernel, by decide +kernel⟩
theorem ok_letter_of {f : Addr} {fd : FuncData} (F : Fun C.K "letter_of" "letter_of" (topS 15) f fd) (b : Bt mg) (x_NoText : XC C.K mg "NoText" (C.xa 9)) :
    FnOk P w C.K mg base (L2.CX P w) 1 f fd ["sign"] (spD C m_letter_of) :=
  d_fn F sc_letter_of fun cdv A outer s H E hr tk hp => by
    have nd := (sc_letter_of).nd
    have hu65 := hu65_of hr
    exact (ds_cons (d_if (dt_cmp op_ninS o_ninS (d_rd 0) d_str (by rfl)) (ds_one (d_raise rfl tk x_NoText)) ds_nil)
  (ds_one (d_ret (d_callTy cr_intS o_intS b.int_ (by decide +kernel) (da_cons (d_rd 0) da_nil)))))
theorem sc_read : FnScope ["text", "pieces", "book", "sign", "piece"] ["text"] (defScope (topS 16)) := ⟨rfl, rfl, rfl, by decide +kernel, rfl, by decide +kernel, by decide +kernel⟩
theorem ok_read {f : Addr} {fd : FuncData} (F : Fun C.K "read" "read" (topS 16) f fd) (b : Bt mg) (x_NoText : XC C.K mg "NoText" (C.xa 9))
    (f_letter_of : Dfn P w C.K mg base C "letter_of" ["sign"] 1 m_letter_of)
    (f_is_book : Dfn P w C.K mg base C "is_book" ["thing"] 4 m_is_book) :
    FnOk P w C.K mg base (L2.CX P w) 5 f fd ["text"] (spD C m_read) :=
  d_fn F sc_read fun cdv A outer s H E hr tk hp => by
    have nd := (sc_read).nd
    have hu65 := hu65_of hr
    exact (ds_cons (d_if (dt_not (dt_val (d_isi rfl b.isinstance b.str_ (by decide +kernel) (d_rd 0)))) (ds_one (d_raise rfl tk x_NoText)) ds_nil)
  (ds_cons (d_asg (d_bm rfl PySem.F.plainAttrs_str PySem.F.slot_str_split PySem.F.type_str_split mt_splitS o_split (d_rd 0) (da_cons d_str da_nil)) (dg_name nd (i := 1)))
  (ds_cons (d_if (dt_cmp (op_ninX hu65) o_ninX (d_ix ix_seq o_ix (d_rd 1) d_int) (d_tup (da_cons d_str (da_cons d_str (da_cons d_str da_nil)))) (by rfl)) (ds_one (d_raise rfl tk x_NoText)) ds_nil)
  (ds_cons (d_asg (d_tup (da_cons (d_callTy cr_intS o_intS b.int_ (by decide +kernel) (da_cons (d_ix ix_seq o_ix (d_rd 1) d_int) da_nil)) (da_cons (d_callTy call_tuple_of o_tuple b.tuple_ (by decide +kernel) (da_cons (d_lcx (own := [("piece", 4)]) rfl nd (TkL.of tk) (di_any rfl (d_cut rfl (d_rd 1) (do_some d_int) do_none)) (blkOk_by (by kernel_rfl)) (fun _ _ _ _ _ _ => (dg_name nd (i := 4))) (fun _ _ _ _ _ _ _ tkb => (d_callTy call_tuple_of o_tuple b.tuple_ (by decide +kernel) (da_cons (d_lcx (own := [("sign", 3)]) rfl nd tkb (di_any rfl (d_rd 4)) (blkOk_by (by kernel_rfl)) (fun _ _ _ _ _ _ => (dg_name nd (i := 3))) (fun _ _ _ _ _ _ _ tkb => (d_callL0 f_letter_of (hr.mono (by decide)) tkb (da_cons (d_rd 3) da_nil)))) da_nil)))) da_nil)) da_nil))) (dg_name nd (i := 2)))
  (ds_cons (d_if (dt_not (dt_val (d_call f_is_book (hr.mono (by decide)) tk (da_cons (d_rd 2) da_nil)))) (ds_one (d_raise rfl tk x_NoText)) ds_nil)
  (ds_one (d_ret (d_rd 2))))))))
theorem sc__law_spoilt : FnScope ["_law_text_here", "_law_cell", "_law_more", "_law_at", "_law_sign", "_law_form"] ["_law_text_here", "_law_cell", "_law_more"] (defScope (topS 24)) := ⟨rfl, rfl, rfl, by decide +kernel, rfl, by decide +kernel, by decide +kernel⟩
theorem ok__law_spoilt {f : Addr} {fd : FuncData} (F : Fun C.K "_law_spoilt" "_law_spoilt" (topS 24) f fd) (b : Bt mg) :
    FnOk P w C.K mg base (L2.CX P w) 1 f fd ["_law_text_here", "_law_cell", "_law_more"] (spD C m__law_spoilt_k23) :=
  d_fn F sc__law_spoilt fun cdv A outer s H E hr tk hp => by
    have nd := (sc__law_spoilt).nd
    have hu65 := hu65_of hr
    exact (ds_cons (d_asg (d_op op_mod o_mod (d_rd 1) (d_op op_addX o_addX (d_callB call_len o_len b.len (by decide +kernel) (da_cons (d_rd 0) da_nil)) d_int)) (dg_name nd (i := 3)))
  (ds_cons (d_asg (d_ix ix_seq o_ix d_str (d_op op_mod o_mod (d_op op_fdiv o_div (d_rd 1) d_int) d_int)) (dg_name nd (i := 4)))
  (ds_cons (d_asg (d_op op_mod o_mod (d_op op_fdiv o_div (d_rd 1) d_int) d_int) (dg_name nd (i := 5)))
  (ds_cons (d_if (dt_cmp (op_eqD hr.units) o_eq (d_rd 5) d_int (nomark _)) (ds_one (d_ret (d_op op_addX o_addX (d_op op_addX o_addX (d_cut rfl (d_rd 0) do_none (do_some (d_rd 3))) (d_rd 4)) (d_cut rfl (d_rd 0) (do_some (d_rd 3)) do_none)))) ds_nil)
  (ds_cons (d_if (dt_cmp (op_eqD hr.units) o_eq (d_rd 5) d_int (nomark _)) (ds_one (d_ret (d_op op_addX o_addX (d_cut rfl (d_rd 0) do_none (do_some (d_rd 3))) (d_cut rfl (d_rd 0) (do_some (d_op op_addX o_addX (d_rd 3) d_int)) do_none)))) ds_nil)
  (ds_cons (d_if (dt_cmp (op_eqD hr.units) o_eq (d_rd 5) d_int (nomark _)) (ds_one (d_ret (d_op op_addX o_addX (d_op op_addX o_addX (d_cut rfl (d_rd 0) do_none (do_some (d_rd 3))) (d_rd 4)) (d_cut rfl (d_rd 0) (do_some (d_op op_addX o_addX (d_rd 3) d_int)) do_none)))) ds_nil)
  (ds_cons (d_if (dt_cmp (op_eqD hr.units) o_eq (d_rd 5) d_int (nomark _)) (ds_one (d_ret (d_op op_addX o_addX (d_cut rfl (d_rd 0) do_none (do_some (d_rd 3))) (d_cut rfl (d_rd 0) (do_some (d_op op_addX o_addX (d_rd 3) (d_op op_mod o_mod (d_op op_fdiv o_div (d_rd 1) d_int) d_int))) do_none)))) ds_nil)
  (ds_cons (d_if (dt_cmp (op_eqD hr.units) o_eq (d_rd 5) d_int (nomark _)) (ds_one (d_ret (d_ix ix_seq o_ix (d_lst (da_cons (d_op op_addX o_addX (d_rd 0) (d_rd 0)) (da_cons (d_op op_addX o_addX (d_cut rfl (d_rd 0) (do_some (d_rd 3)) do_none) (d_cut rfl (d_rd 0) do_none (do_some (d_rd 3)))) (da_cons (d_op op_addX o_addX d_str (d_rd 0)) (da_cons (d_op op_addX o_addX (d_rd 0) d_str) da_nil))))) (d_op op_mod o_mod (d_rd 1) d_int)))) ds_nil)
  (ds_one (d_ret (d_ix ix_seq o_ix (d_rd 2) (d_op op_mod o_mod (d_rd 1) (d_callB call_len o_len b.len (by decide +kernel) (da_cons (d_rd 2) da_nil))))))))))))))
theorem sc__law_due : FnScope ["_law_text_here", "_law_words", "_law_sign"] ["_law_text_here"] (defScope (topS 23)) := ⟨rfl, rfl, rfl, by decide +kernel, rfl, by decide +kernel, by decide +kernel⟩
theorem ok__law_due {f : Addr} {fd : FuncData} (F : Fun C.K "_law_due" "_law_due" (topS 23) f fd) (b : Bt mg) (ef_1 : EF C.K C.xa [1, 9] 1 (.ref (C.xa 1))) (gx_NoBook : mg "NoBook" = some (.ref (C.xa 1)))
    (f_checked : Dfn P w C.K mg base C "checked" ["book"] 5 m_checked) :
    FnOk P w C.K mg base (L2.CX P w) 6 f fd ["_law_text_here"] (spD C m__law_due) :=
  d_fn F sc__law_due fun cdv A outer s H E hr tk hp => by
    have nd := (sc__law_due).nd
    have hu65 := hu65_of hr
    exact (ds_cons (d_if (DW.dt (dw_or (dt_not (dt_val (d_isi rfl b.isinstance b.str_ (by decide +kernel) (d_rd 0)))) (dw_or1 (dt_cmp (op_ninX hu65) o_ninX (d_cut rfl (d_rd 0) do_none (do_some d_int)) (d_tup (da_cons d_str (da_cons d_str (da_cons d_str da_nil)))) (by rfl))))) (ds_one (d_ret d_non)) ds_nil)
  (ds_cons (d_own (df_lst da_nil) nd (i := 1))
  (ds_cons (d_for hp rfl (di_any rfl (d_cut rfl (d_rd 0) (do_some d_int) do_none)) (dg_name nd (i := 2)) (ds_one (d_if (dt_cmp (op_eqD hr.units) o_eq (d_rd 2) d_str (nomark _)) (ds_one (d_expr (d_mut 1 rfl PySem.F.slot_list_append PySem.F.type_list_append mt_append mu_app (da_cons (d_tup da_nil) da_nil)))) (ds_one (d_if (DW.dt (dw_or (dt_cmp (op_ninX hu65) o_ninX (d_rd 2) (d_tup (da_cons d_str (da_cons d_str (da_cons d_str da_nil)))) (by rfl)) (dw_or1 (dt_eqO 1 rfl hr.units (d_lst da_nil))))) (ds_one (d_ret d_non)) (ds_one (d_setL (i := 1) (d_op op_addX o_addX (d_ixO 1 rfl (d_un un_neg o_neg d_int)) (d_tup (da_cons (d_callTy cr_intS o_intS b.int_ (by decide +kernel) (da_cons (d_rd 2) da_nil)) da_nil))) (d_un un_neg o_neg d_int))))))))
  (ds_one (d_tryN [1, 9] tk ⟨rfl, by decide, .inl gx_NoBook⟩ ef_1 (fun c hk a oe pn hz hf =>
    (ds_one (d_ret d_non))) (fun W pn xe tk hp =>
    (ds_one (d_ret (d_call f_checked (hr.mono (by decide)) tk (da_cons (d_tup (da_cons (d_callTy cr_intS o_intS b.int_ (by decide +kernel) (da_cons (d_ix ix_seq o_ix (d_rd 0) d_int) da_nil)) (da_cons (d_callTy call_tuple_of o_tuple b.tuple_ (by decide +kernel) (da_cons (d_rd 1) da_nil)) da_nil))) da_nil))))))))))
theorem sc_law : FnScope ["_law_script", "_law_book", "_law_text_here", "_law_more", "_law_answer", "e"] ["_law_script"] (defScope (topS 25)) := ⟨rfl, rfl, rfl, by decide +kernel, rfl, by decide +kernel, by decide +kernel⟩
theorem ok_law {f : Addr} {fd : FuncData} (F : Fun C.K "law" "law" (topS 25) f fd) (b : Bt mg) (ef_0 : EF C.K C.xa [1, 9] 0 (.ref (C.xa 0))) (ef_1 : EF C.K C.xa [1, 9] 1 (.ref (C.xa 1))) (ef_9 : EF C.K C.xa [1, 9] 9 (.ref (C.xa 9))) (ef_100 : EF C.K C.xa [1, 9] 100 (.type "ValueError")) (ec : ∀ c ∈ ([1, 9] : List Nat), ExcC C.K (C.xa c)) (gx_NearError : mg "NearError" = some (.ref (C.xa 0))) (gx_NoBook : mg "NoBook" = some (.ref (C.xa 1))) (gx_NoText : mg "NoText" = some (.ref (C.xa 9)))
    (f__law_any : Dfn P w C.K mg base C "_law_any" ["_law_script", "_law_at", "_law_words", "_law_most"] 4 m__law_any)
    (f_shown : Dfn P w C.K mg base C "shown" ["book"] 6 m_shown)
    (f__law_text : Dfn P w C.K mg base C "_law_text" ["_law_book"] 1 m__law_text)
    (f_read : Dfn P w C.K mg base C "read" ["text"] 5 m_read)
    (f__law_mixed : Dfn P w C.K mg base C "_law_mixed" ["_law_script", "_law_k", "_law_many"] 2 m__law_mixed)
    (f__law_spoilt : Dfn P w C.K mg base C "_law_spoilt" ["_law_text_here", "_law_cell", "_law_more"] 1 m__law_spoilt_k23)
    (f__law_due : Dfn P w C.K mg base C "_law_due" ["_law_text_here"] 6 m__law_due) :
    FnOk P w C.K mg base (L2.CX P w) 7 f fd ["_law_script"] (spD C m_law_k23) :=
  d_fn F sc_law fun cdv A outer s H E hr tk hp => by
    have nd := (sc_law).nd
    have hu65 := hu65_of hr
    exact (ds_cons (d_asg (d_call f__law_any (hr.mono (by decide)) tk (da_cons (d_rd 0) (da_cons d_int (da_cons d_int (da_cons d_int da_nil))))) (dg_name nd (i := 1)))
  (ds_cons (d_asg (d_call f_shown (hr.mono (by decide)) tk (da_cons (d_rd 1) da_nil)) (dg_name nd (i := 2)))
  (ds_cons (d_if (DW.dt (dw_or (dt_not (dt_val (d_isi rfl b.isinstance b.str_ (by decide +kernel) (d_rd 2)))) (dw_or (dt_cmp (op_neD hr.units) o_ne (d_rd 2) (d_call f__law_text (hr.mono (by decide)) tk (da_cons (d_rd 1) da_nil)) (nomark _)) (dw_or1 (dt_cmp (op_neD hr.units) o_ne (d_call f_read (hr.mono (by decide)) tk (da_cons (d_rd 2) da_nil)) (d_rd 1) (nomark _)))))) (ds_one (d_ret d_bl)) ds_nil)
  (ds_cons (d_own (df_lst (da_cons d_str (da_cons d_str (da_cons d_str (da_cons d_str (da_cons d_str (da_cons d_str (da_cons d_str (da_cons d_str (da_cons d_non (da_cons d_int (da_cons (d_lst (da_cons (d_rd 2) da_nil)) da_nil)))))))))))) nd (i := 3))
  (ds_cons (d_expr (d_mut 3 rfl PySem.F.slot_list_extend PySem.F.type_list_extend mt_extend mu_ext (da_cons (d_lst (da_cons d_str (da_cons d_str (da_cons d_str (da_cons d_str (da_cons d_str da_nil)))))) da_nil)))
  (ds_cons (d_asg (d_call f__law_spoilt (hr.mono (by decide)) tk (da_cons (d_rd 2) (da_cons (d_call f__law_mixed (hr.mono (by decide)) tk (da_cons (d_rd 0) (da_cons d_int (da_cons (d_op op_pow o_pow d_int d_int) da_nil)))) (da_cons (d_rd 3) da_nil)))) (dg_name nd (i := 2)))
  (ds_cons (d_asg d_non (dg_name nd (i := 4)))
  (ds_cons (d_try [1, 9] nd tk (.cons ⟨⟨_, _, _, _, _, _, _, rfl, rfl, rfl, ⟨rfl, by decide, .inl gx_NoText⟩, ef_9, fun c hk a oe pn hz hf =>
    (ds_one (d_if (DW.dt (dw_or (dt_not (dt_val (d_isE hk (ec _ hk) hz hf ef_0 b.isinstance (pe_glob (v := .ref (C.xa 0)) rfl gx_NearError rfl (by decide)) (fun _ e => e)))) (dw_or (dt_not (dt_val (d_isE hk (ec _ hk) hz hf ef_100 b.isinstance (pe_bltn (v := .ty "ValueError") rfl b.ValueError (by decide +kernel) rfl (by decide) (by decide)) (fun _ e => e)))) (dw_or1 (dt_val (d_isE hk (ec _ hk) hz hf ef_1 b.isinstance (pe_glob (v := .ref (C.xa 1)) rfl gx_NoBook rfl (by decide)) (fun _ e => e))))))) (ds_one (d_ret d_bl)) ds_nil))⟩⟩ .nil) (fun W pn xe tk hp =>
    (ds_one (d_asg (d_call f_read (hr.mono (by decide)) tk (da_cons (d_rd 2) da_nil)) (dg_name nd (i := 4))))))
  (ds_one (d_ret (de_cmp (op_eqD hr.units) o_eq (d_rd 4) (d_call f__law_due (hr.mono (by decide)) tk (da_cons (d_rd 2) da_nil)) (nomark _))))))))))))
end
def spLaw (K : PySem.W.Frag) : Sp := fun vs H Q _ => ∃ (a : Addr) (ns : List Int), vs = [.ref a] ∧ SqL K H a (ns.map V.int) ∧ ns.length ≤ 63 ∧ ∀ H', Q (.bl true) H'
theorem all_mk (TRUE : ∀ ns : List Int, ns.length ≤ 63 → m_law_k23 [.scr ns] = .ok (.bl true)) {l : PySem.W.OpenLaw} {w : World} {K : PySem.W.Frag} {h : Heap} {mg : Str → Option Value} {fa f0 f1 f2 f3 f4 f5 f6 f7 f8 f9 f10 f11 f12 f13 f14 f15 f16 xa_NearError xa_NoBook xa_NoText : Addr} (X : K.In h) (G : h.Ns mainGlobals mg) (hfa : mg "law" = some (.ref fa))
    {od0 an0 od1 an1 od2 an2 od3 an3 od4 an4 od5 an5 od6 an6 od7 an7 od8 an8 od9 an9 od10 an10 od11 an11 od12 an12 od13 an13 od14 an14 od15 an15 od16 an16 : Option Addr} {sl0 sl1 sl2 sl3 sl4 sl5 sl6 sl7 sl8 sl9 sl10 sl11 sl12 sl13 sl14 sl15 sl16 : Array (Option Value)} {oc0 kV0 dc0 pm0 cd0 ct0 oc1 kV1 dc1 pm1 cd1 ct1 oc2 kV2 dc2 pm2 cd2 ct2 oc3 kV3 dc3 pm3 cd3 ct3 oc4 kV4 dc4 pm4 cd4 ct4 oc5 kV5 dc5 pm5 cd5 ct5 oc6 kV6 dc6 pm6 cd6 ct6 oc7 kV7 dc7 pm7 cd7 ct7 oc8 kV8 dc8 pm8 cd8 ct8 oc9 kV9 dc9 pm9 cd9 ct9 oc10 kV10 dc10 pm10 cd10 ct10 oc11 kV11 dc11 pm11 cd11 ct11 oc12 kV12 dc12 pm12 cd12 ct12 oc13 kV13 dc13 pm13 cd13 ct13 oc14 kV14 dc14 pm14 cd14 ct14 oc15 kV15 dc15 pm15 cd15 ct15 oc16 kV16 dc16 pm16 cd16 ct16 : Value} {t_LENGTH : Tok} {t_WORDS : Tok}
    (a0 : PySem.W.nsIn K mainGlobals "_law_cell_at" = some (some (.ref f0))) (l0 : K.lookup f0 = some ⟨oc0, od0, .func (PySem.W.fnOf "_law_cell_at" "_law_cell_at" (defArgs (topS 18)) (defBody (topS 18)) (defScope (topS 18)) .none kV0 dc0 pm0 an0 cd0 ct0), sl0⟩) (c0 : PySem.W.codeIn K cd0 "_law_cell_at" = true) (k0 : PySem.W.keepIn K (.ref f0) = true)
    (a1 : PySem.W.nsIn K mainGlobals "_law_mixed" = some (some (.ref f1))) (l1 : K.lookup f1 = some ⟨oc1, od1, .func (PySem.W.fnOf "_law_mixed" "_law_mixed" (defArgs (topS 19)) (defBody (topS 19)) (defScope (topS 19)) .none kV1 dc1 pm1 an1 cd1 ct1), sl1⟩) (c1 : PySem.W.codeIn K cd1 "_law_mixed" = true) (k1 : PySem.W.keepIn K (.ref f1) = true)
    (a2 : PySem.W.nsIn K mainGlobals "_law_word" = some (some (.ref f2))) (l2 : K.lookup f2 = some ⟨oc2, od2, .func (PySem.W.fnOf "_law_word" "_law_word" (defArgs (topS 20)) (defBody (topS 20)) (defScope (topS 20)) .none kV2 dc2 pm2 an2 cd2 ct2), sl2⟩) (c2 : PySem.W.codeIn K cd2 "_law_word" = true) (k2 : PySem.W.keepIn K (.ref f2) = true)
    (a3 : PySem.W.nsIn K mainGlobals "_law_any" = some (some (.ref f3))) (l3 : K.lookup f3 = some ⟨oc3, od3, .func (PySem.W.fnOf "_law_any" "_law_any" (defArgs (topS 21)) (defBody (topS 21)) (defScope (topS 21)) .none kV3 dc3 pm3 an3 cd3 ct3), sl3⟩) (c3 : PySem.W.codeIn K cd3 "_law_any" = true) (k3 : PySem.W.keepIn K (.ref f3) = true)
    (a4 : PySem.W.nsIn K mainGlobals "is_whole" = some (some (.ref f4))) (l4 : K.lookup f4 = some ⟨oc4, od4, .func (PySem.W.fnOf "is_whole" "is_whole" (defArgs (topS 7)) (defBody (topS 7)) (defScope (topS 7)) .none kV4 dc4 pm4 an4 cd4 ct4), sl4⟩) (c4 : PySem.W.codeIn K cd4 "is_whole" = true) (k4 : PySem.W.keepIn K (.ref f4) = true)
    (a5 : PySem.W.nsIn K mainGlobals "between" = some (some (.ref f5))) (l5 : K.lookup f5 = some ⟨oc5, od5, .func (PySem.W.fnOf "between" "between" (defArgs (topS 8)) (defBody (topS 8)) (defScope (topS 8)) .none kV5 dc5 pm5 an5 cd5 ct5), sl5⟩) (c5 : PySem.W.codeIn K cd5 "between" = true) (k5 : PySem.W.keepIn K (.ref f5) = true)
    (a6 : PySem.W.nsIn K mainGlobals "is_word" = some (some (.ref f6))) (l6 : K.lookup f6 = some ⟨oc6, od6, .func (PySem.W.fnOf "is_word" "is_word" (defArgs (topS 9)) (defBody (topS 9)) (defScope (topS 9)) .none kV6 dc6 pm6 an6 cd6 ct6), sl6⟩) (c6 : PySem.W.codeIn K cd6 "is_word" = true) (k6 : PySem.W.keepIn K (.ref f6) = true)
    (a7 : PySem.W.nsIn K mainGlobals "is_book" = some (some (.ref f7))) (l7 : K.lookup f7 = some ⟨oc7, od7, .func (PySem.W.fnOf "is_book" "is_book" (defArgs (topS 10)) (defBody (topS 10)) (defScope (topS 10)) .none kV7 dc7 pm7 an7 cd7 ct7), sl7⟩) (c7 : PySem.W.codeIn K cd7 "is_book" = true) (k7 : PySem.W.keepIn K (.ref f7) = true)
    (a8 : PySem.W.nsIn K mainGlobals "checked" = some (some (.ref f8))) (l8 : K.lookup f8 = some ⟨oc8, od8, .func (PySem.W.fnOf "checked" "checked" (defArgs (topS 11)) (defBody (topS 11)) (defScope (topS 11)) .none kV8 dc8 pm8 an8 cd8 ct8), sl8⟩) (c8 : PySem.W.codeIn K cd8 "checked" = true) (k8 : PySem.W.keepIn K (.ref f8) = true)
    (a9 : PySem.W.nsIn K mainGlobals "text_of" = some (some (.ref f9))) (l9 : K.lookup f9 = some ⟨oc9, od9, .func (PySem.W.fnOf "text_of" "text_of" (defArgs (topS 13)) (defBody (topS 13)) (defScope (topS 13)) .none kV9 dc9 pm9 an9 cd9 ct9), sl9⟩) (c9 : PySem.W.codeIn K cd9 "text_of" = true) (k9 : PySem.W.keepIn K (.ref f9) = true)
    (a10 : PySem.W.nsIn K mainGlobals "shown" = some (some (.ref f10))) (l10 : K.lookup f10 = some ⟨oc10, od10, .func (PySem.W.fnOf "shown" "shown" (defArgs (topS 14)) (defBody (topS 14)) (defScope (topS 14)) .none kV10 dc10 pm10 an10 cd10 ct10), sl10⟩) (c10 : PySem.W.codeIn K cd10 "shown" = true) (k10 : PySem.W.keepIn K (.ref f10) = true)
    (a11 : PySem.W.nsIn K mainGlobals "_law_text" = some (some (.ref f11))) (l11 : K.lookup f11 = some ⟨oc11, od11, .func (PySem.W.fnOf "_law_text" "_law_text" (defArgs (topS 22)) (defBody (topS 22)) (defScope (topS 22)) .none kV11 dc11 pm11 an11 cd11 ct11), sl11⟩) (c11 : PySem.W.codeIn K cd11 "_law_text" = true) (k11 : PySem.W.keepIn K (.ref f11) = true)
    (a12 : PySem.W.nsIn K mainGlobals "letter_of" = some (some (.ref f12))) (l12 : K.lookup f12 = some ⟨oc12, od12, .func (PySem.W.fnOf "letter_of" "letter_of" (defArgs (topS 15)) (defBody (topS 15)) (defScope (topS 15)) .none kV12 dc12 pm12 an12 cd12 ct12), sl12⟩) (c12 : PySem.W.codeIn K cd12 "letter_of" = true) (k12 : PySem.W.keepIn K (.ref f12) = true)
    (a13 : PySem.W.nsIn K mainGlobals "read" = some (some (.ref f13))) (l13 : K.lookup f13 = some ⟨oc13, od13, .func (PySem.W.fnOf "read" "read" (defArgs (topS 16)) (defBody (topS 16)) (defScope (topS 16)) .none kV13 dc13 pm13 an13 cd13 ct13), sl13⟩) (c13 : PySem.W.codeIn K cd13 "read" = true) (k13 : PySem.W.keepIn K (.ref f13) = true)
    (a14 : PySem.W.nsIn K mainGlobals "_law_spoilt" = some (some (.ref f14))) (l14 : K.lookup f14 = some ⟨oc14, od14, .func (PySem.W.fnOf "_law_spoilt" "_law_spoilt" (defArgs (topS 24)) (defBody (topS 24)) (defScope (topS 24)) .none kV14 dc14 pm14 an14 cd14 ct14), sl14⟩) (c14 : PySem.W.codeIn K cd14 "_law_spoilt" = true) (k14 : PySem.W.keepIn K (.ref f14) = true)
    (a15 : PySem.W.nsIn K mainGlobals "_law_due" = some (some (.ref f15))) (l15 : K.lookup f15 = some ⟨oc15, od15, .func (PySem.W.fnOf "_law_due" "_law_due" (defArgs (topS 23)) (defBody (topS 23)) (defScope (topS 23)) .none kV15 dc15 pm15 an15 cd15 ct15), sl15⟩) (c15 : PySem.W.codeIn K cd15 "_law_due" = true) (k15 : PySem.W.keepIn K (.ref f15) = true)
    (a16 : PySem.W.nsIn K mainGlobals "law" = some (some (.ref f16))) (l16 : K.lookup f16 = some ⟨oc16, od16, .func (PySem.W.fnOf "law" "law" (defArgs (topS 25)) (defBody (topS 25)) (defScope (topS 25)) .none kV16 dc16 pm16 an16 cd16 ct16), sl16⟩) (c16 : PySem.W.codeIn K cd16 "law" = true) (k16 : PySem.W.keepIn K (.ref f16) = true)
    (z_ValueError : PySem.W.nsIn K mainGlobals "ValueError" = some none)
    (z_all : PySem.W.nsIn K mainGlobals "all" = some none)
    (z_bool : PySem.W.nsIn K mainGlobals "bool" = some none)
    (z_int : PySem.W.nsIn K mainGlobals "int" = some none)
    (z_isinstance : PySem.W.nsIn K mainGlobals "isinstance" = some none)
    (z_len : PySem.W.nsIn K mainGlobals "len" = some none)
    (z_range : PySem.W.nsIn K mainGlobals "range" = some none)
    (z_str : PySem.W.nsIn K mainGlobals "str" = some none)
    (z_tuple : PySem.W.nsIn K mainGlobals "tuple" = some none)
    (e_LENGTH : PySem.W.nsIn K mainGlobals "LENGTH" = some (some (.int 6 t_LENGTH)))
    (e_WORDS : PySem.W.nsIn K mainGlobals "WORDS" = some (some (.int 5 t_WORDS)))
    (ga_NoBook : PySem.W.nsIn K mainGlobals "NoBook" = some (some (.ref xa_NoBook))) (gq_NoBook : PySem.W.excIn K xa_NoBook [.type "ValueError", .type "Exception", .type "BaseException", .type "object"] "ValueError.__new__" = true) (gk_NoBook : PySem.W.keepIn K (.ref xa_NoBook) = true) (gs_NoBook : PySem.W.subIn K (.ref xa_NoBook) (.type "BaseException") = some true) (gt_NoBook : PySem.W.typeIn K (.ref xa_NoBook) = some (.type "type"))
    (ga_NoText : PySem.W.nsIn K mainGlobals "NoText" = some (some (.ref xa_NoText))) (gq_NoText : PySem.W.excIn K xa_NoText [.type "ValueError", .type "Exception", .type "BaseException", .type "object"] "ValueError.__new__" = true) (gk_NoText : PySem.W.keepIn K (.ref xa_NoText) = true) (gs_NoText : PySem.W.subIn K (.ref xa_NoText) (.type "BaseException") = some true) (gt_NoText : PySem.W.typeIn K (.ref xa_NoText) = some (.type "type"))
    (ga_NearError : PySem.W.nsIn K mainGlobals "NearError" = some (some (.ref xa_NearError)))
    (b1_0 : PySem.W.subIn K (.ref xa_NearError) (.type "BaseException") = some true) (b2_0 : PySem.W.hasDictIn K xa_NearError = true) (b3_0 : PySem.W.typeIn K (.ref xa_NearError) = some (.type "type")) (b4_0 : PySem.W.subIn K (.ref xa_NearError) (.ref xa_NearError) = some true)
    (sb_1_0 : PySem.W.subIn K (.ref xa_NoBook) (.ref xa_NearError) = some true)
    (sb_9_0 : PySem.W.subIn K (.ref xa_NoText) (.ref xa_NearError) = some true)
    (b1_1 : PySem.W.subIn K (.ref xa_NoBook) (.type "BaseException") = some true) (b2_1 : PySem.W.hasDictIn K xa_NoBook = true) (b3_1 : PySem.W.typeIn K (.ref xa_NoBook) = some (.type "type")) (b4_1 : PySem.W.subIn K (.ref xa_NoBook) (.ref xa_NoBook) = some true)
    (sb_1_1 : PySem.W.subIn K (.ref xa_NoBook) (.ref xa_NoBook) = some true)
    (sb_9_1 : PySem.W.subIn K (.ref xa_NoText) (.ref xa_NoBook) = some false)
    (b1_9 : PySem.W.subIn K (.ref xa_NoText) (.type "BaseException") = some true) (b2_9 : PySem.W.hasDictIn K xa_NoText = true) (b3_9 : PySem.W.typeIn K (.ref xa_NoText) = some (.type "type")) (b4_9 : PySem.W.subIn K (.ref xa_NoText) (.ref xa_NoText) = some true)
    (sb_1_9 : PySem.W.subIn K (.ref xa_NoBook) (.ref xa_NoText) = some false)
    (sb_9_9 : PySem.W.subIn K (.ref xa_NoText) (.ref xa_NoText) = some true)
    (sb_1_100 : PySem.W.subIn K (.ref xa_NoBook) (.type "ValueError") = some true)
    (sb_9_100 : PySem.W.subIn K (.ref xa_NoText) (.type "ValueError") = some true)
    (en_n : PySem.W.specialIn K (.builtin "object.__class__") "__get__" = some (some (.builtin "getset_descriptor.__get__"))) (en_t : PySem.W.takesIn K (.builtin "object.__class__") = some true)
    (e1_NoBook : PySem.W.findIn K (.ref xa_NoBook) "__getattribute__" = some (some (.builtin "BaseException.__getattribute__"))) (e2_NoBook : PySem.W.findIn K (.ref xa_NoBook) "__getattr__" = some none) (e3_NoBook : PySem.W.subIn K (.ref xa_NoBook) (.type "BaseException") = some true) (e4_NoBook : PySem.W.hasDictIn K xa_NoBook = true) (e5_NoBook : PySem.W.findIn K (.ref xa_NoBook) "__class__" = some (some (.builtin "object.__class__"))) (e6_NoBook : PySem.W.mroIn K xa_NoBook (.type "object") = some true)
    (e1_NoText : PySem.W.findIn K (.ref xa_NoText) "__getattribute__" = some (some (.builtin "BaseException.__getattribute__"))) (e2_NoText : PySem.W.findIn K (.ref xa_NoText) "__getattr__" = some none) (e3_NoText : PySem.W.subIn K (.ref xa_NoText) (.type "BaseException") = some true) (e4_NoText : PySem.W.hasDictIn K xa_NoText = true) (e5_NoText : PySem.W.findIn K (.ref xa_NoText) "__class__" = some (some (.builtin "object.__class__"))) (e6_NoText : PySem.W.mroIn K xa_NoText (.type "object") = some true) :
    ∃ fd : FuncData, (∀ (s : Shared) (v : Value), BindsTo s fd ⟨[v], []⟩ [("_law_script", v)]) ∧ ∀ base : Heap, K.In base → base.Ns mainGlobals mg → FnOk l.prog w K mg base (L2.CX l.prog w) 7 fa fd ["_law_script"] (spLaw K) := by
  have e := hfa.symm.trans (PySem.W.mg_of X G a16)
  cases e
  let xa : Nat → Addr := fun n => match n with
    | 0 => xa_NearError
    | 1 => xa_NoBook
    | 9 => xa_NoText
    | _ => 0
  let C : Cf := { K := K, P := l.prog, w := w, xa := xa, mo := memoOf }
  have hP : C.P = l.prog := rfl
  have hw : C.w = w := rfl
  have hmo : C.mo = memoOf := rfl
  have gx_NearError : mg "NearError" = some (.ref (C.xa 0)) := PySem.W.mg_of X G ga_NearError
  have gx_NoBook : mg "NoBook" = some (.ref (C.xa 1)) := PySem.W.mg_of X G ga_NoBook
  have gx_NoText : mg "NoText" = some (.ref (C.xa 9)) := PySem.W.mg_of X G ga_NoText
  have ef_0 : EF C.K C.xa [1, 9] 0 (Value.ref xa_NearError) := ⟨(all2 (exm_r b1_0 b2_0 b3_0 sb_1_0) (all2 (exm_r b1_0 b2_0 b3_0 sb_9_0) all0)), (all2 (kit_r b4_0 b2_0 b3_0 sb_1_0) (all2 (kit_r b4_0 b2_0 b3_0 sb_9_0) all0))⟩
  have ef_1 : EF C.K C.xa [1, 9] 1 (Value.ref xa_NoBook) := ⟨(all2 (exm_r b1_1 b2_1 b3_1 sb_1_1) (all2 (exm_r b1_1 b2_1 b3_1 sb_9_1) all0)), (all2 (kit_r b4_1 b2_1 b3_1 sb_1_1) (all2 (kit_r b4_1 b2_1 b3_1 sb_9_1) all0))⟩
  have ef_9 : EF C.K C.xa [1, 9] 9 (Value.ref xa_NoText) := ⟨(all2 (exm_r b1_9 b2_9 b3_9 sb_1_9) (all2 (exm_r b1_9 b2_9 b3_9 sb_9_9) all0)), (all2 (kit_r b4_9 b2_9 b3_9 sb_1_9) (all2 (kit_r b4_9 b2_9 b3_9 sb_9_9) all0))⟩
  have ef_100 : EF C.K C.xa [1, 9] 100 (Value.type "ValueError") := ⟨(all2 (exm_v sb_1_100) (all2 (exm_v sb_9_100) all0)), (all2 (kit_v sb_1_100) (all2 (kit_v sb_9_100) all0))⟩
  have ec : ∀ c ∈ ([1, 9] : List Nat), ExcC C.K (C.xa c) := (all2 ⟨e1_NoBook, e2_NoBook, e3_NoBook, e4_NoBook, e5_NoBook, en_n, en_t, e6_NoBook⟩ (all2 ⟨e1_NoText, e2_NoText, e3_NoText, e4_NoText, e5_NoText, en_n, en_t, e6_NoText⟩ all0))
  have b : Bt mg := ⟨PySem.W.mg_none_of X G z_ValueError, PySem.W.mg_none_of X G z_all, PySem.W.mg_none_of X G z_bool, PySem.W.mg_none_of X G z_int, PySem.W.mg_none_of X G z_isinstance, PySem.W.mg_none_of X G z_len, PySem.W.mg_none_of X G z_range, PySem.W.mg_none_of X G z_str, PySem.W.mg_none_of X G z_tuple⟩
  have x_NoBook : XC C.K mg "NoBook" (C.xa 1) := ⟨PySem.W.mg_of X G ga_NoBook, gq_NoBook, gk_NoBook, gs_NoBook, gt_NoBook⟩
  have x_NoText : XC C.K mg "NoText" (C.xa 9) := ⟨PySem.W.mg_of X G ga_NoText, gq_NoText, gk_NoText, gs_NoText, gt_NoText⟩
  have hc_LENGTH : ∃ t, mg "LENGTH" = some (Value.int 6 t) := ⟨_, PySem.W.mg_of X G e_LENGTH⟩
  have hc_WORDS : ∃ t, mg "WORDS" = some (Value.int 5 t) := ⟨_, PySem.W.mg_of X G e_WORDS⟩
  have F0 := fun_mk (st := topS 18) l0 c0 k0
  have F1 := fun_mk (st := topS 19) l1 c1 k1
  have F2 := fun_mk (st := topS 20) l2 c2 k2
  have F3 := fun_mk (st := topS 21) l3 c3 k3
  have F4 := fun_mk (st := topS 7) l4 c4 k4
  have F5 := fun_mk (st := topS 8) l5 c5 k5
  have F6 := fun_mk (st := topS 9) l6 c6 k6
  have F7 := fun_mk (st := topS 10) l7 c7 k7
  have F8 := fun_mk (st := topS 11) l8 c8 k8
  have F9 := fun_mk (st := topS 13) l9 c9 k9
  have F10 := fun_mk (st := topS 14) l10 c10 k10
  have F11 := fun_mk (st := topS 22) l11 c11 k11
  have F12 := fun_mk (st := topS 15) l12 c12 k12
  have F13 := fun_mk (st := topS 16) l13 c13 k13
  have F14 := fun_mk (st := topS 24) l14 c14 k14
  have F15 := fun_mk (st := topS 23) l15 c15 k15
  have F16 := fun_mk (st := topS 25) l16 c16 k16
  refine ⟨PySem.W.fnOf "law" "law" (defArgs (topS 25)) (defBody (topS 25)) (defScope (topS 25)) .none kV16 dc16 pm16 an16 cd16 ct16, fun s v => .of_eq rfl, fun base _ _ => ?_⟩
  have f__law_cell_at : Dfn l.prog w C.K mg base C "_law_cell_at" ["_law_script", "_law_k"] 1 m__law_cell_at := ⟨_, _, PySem.W.mg_of X G a0, k0, F0.binds (ps := ["_law_script", "_law_k"]) fun _ _ _ _ _ _ us hl => match us, hl with | [_, _], _ => rfl, ok__law_cell_at (C := C) F0 b⟩
  have f__law_mixed : Dfn l.prog w C.K mg base C "_law_mixed" ["_law_script", "_law_k", "_law_many"] 2 m__law_mixed := ⟨_, _, PySem.W.mg_of X G a1, k1, F1.binds (ps := ["_law_script", "_law_k", "_law_many"]) fun _ _ _ _ _ _ us hl => match us, hl with | [_, _, _], _ => rfl, ok__law_mixed (C := C) F1 b f__law_cell_at⟩
  have f__law_word : Dfn l.prog w C.K mg base C "_law_word" ["_law_script", "_law_at", "_law_letters", "_law_size"] 3 m__law_word := ⟨_, _, PySem.W.mg_of X G a2, k2, F2.binds (ps := ["_law_script", "_law_at", "_law_letters", "_law_size"]) fun _ _ _ _ _ _ us hl => match us, hl with | [_, _, _, _], _ => rfl, ok__law_word (C := C) F2 b f__law_mixed⟩
  have f__law_any : Dfn l.prog w C.K mg base C "_law_any" ["_law_script", "_law_at", "_law_words", "_law_most"] 4 m__law_any := ⟨_, _, PySem.W.mg_of X G a3, k3, F3.binds (ps := ["_law_script", "_law_at", "_law_words", "_law_most"]) fun _ _ _ _ _ _ us hl => match us, hl with | [_, _, _, _], _ => rfl, ok__law_any (C := C) F3 b f__law_mixed f__law_word⟩
  have f_is_whole : Dfn l.prog w C.K mg base C "is_whole" ["thing"] 1 m_is_whole := ⟨_, _, PySem.W.mg_of X G a4, k4, F4.binds (ps := ["thing"]) fun _ _ _ _ _ _ us hl => match us, hl with | [_], _ => rfl, ok_is_whole (C := C) F4 b⟩
  have f_between : Dfn l.prog w C.K mg base C "between" ["thing", "low", "most"] 2 m_between := ⟨_, _, PySem.W.mg_of X G a5, k5, F5.binds (ps := ["thing", "low", "most"]) fun _ _ _ _ _ _ us hl => match us, hl with | [_, _, _], _ => rfl, ok_between (C := C) F5 b f_is_whole⟩
  have f_is_word : Dfn l.prog w C.K mg base C "is_word" ["thing", "letters", "most"] 3 m_is_word := ⟨_, _, PySem.W.mg_of X G a6, k6, F6.binds (ps := ["thing", "letters", "most"]) fun _ _ _ _ _ _ us hl => match us, hl with | [_, _, _], _ => rfl, ok_is_word (C := C) F6 b f_between⟩
  have f_is_book : Dfn l.prog w C.K mg base C "is_book" ["thing"] 4 m_is_book := ⟨_, _, PySem.W.mg_of X G a7, k7, F7.binds (ps := ["thing"]) fun _ _ _ _ _ _ us hl => match us, hl with | [_], _ => rfl, ok_is_book (C := C) F7 b hc_LENGTH hc_WORDS f_between f_is_word⟩
  have f_checked : Dfn l.prog w C.K mg base C "checked" ["book"] 5 m_checked := ⟨_, _, PySem.W.mg_of X G a8, k8, F8.binds (ps := ["book"]) fun _ _ _ _ _ _ us hl => match us, hl with | [_], _ => rfl, ok_checked (C := C) F8 b x_NoBook f_is_book⟩
  have f_text_of : Dfn l.prog w C.K mg base C "text_of" ["book"] 1 m_text_of := ⟨_, _, PySem.W.mg_of X G a9, k9, F9.binds (ps := ["book"]) fun _ _ _ _ _ _ us hl => match us, hl with | [_], _ => rfl, ok_text_of (C := C) F9 b⟩
  have f_shown : Dfn l.prog w C.K mg base C "shown" ["book"] 6 m_shown := ⟨_, _, PySem.W.mg_of X G a10, k10, F10.binds (ps := ["book"]) fun _ _ _ _ _ _ us hl => match us, hl with | [_], _ => rfl, ok_shown (C := C) F10 b f_checked f_text_of⟩
  have f__law_text : Dfn l.prog w C.K mg base C "_law_text" ["_law_book"] 1 m__law_text := ⟨_, _, PySem.W.mg_of X G a11, k11, F11.binds (ps := ["_law_book"]) fun _ _ _ _ _ _ us hl => match us, hl with | [_], _ => rfl, ok__law_text (C := C) F11 b⟩
  have f_letter_of : Dfn l.prog w C.K mg base C "letter_of" ["sign"] 1 m_letter_of := ⟨_, _, PySem.W.mg_of X G a12, k12, F12.binds (ps := ["sign"]) fun _ _ _ _ _ _ us hl => match us, hl with | [_], _ => rfl, ok_letter_of (C := C) F12 b x_NoText⟩
  have f_read : Dfn l.prog w C.K mg base C "read" ["text"] 5 m_read := ⟨_, _, PySem.W.mg_of X G a13, k13, F13.binds (ps := ["text"]) fun _ _ _ _ _ _ us hl => match us, hl with | [_], _ => rfl, ok_read (C := C) F13 b x_NoText f_letter_of f_is_book⟩
  have f__law_spoilt : Dfn l.prog w C.K mg base C "_law_spoilt" ["_law_text_here", "_law_cell", "_law_more"] 1 m__law_spoilt_k23 := ⟨_, _, PySem.W.mg_of X G a14, k14, F14.binds (ps := ["_law_text_here", "_law_cell", "_law_more"]) fun _ _ _ _ _ _ us hl => match us, hl with | [_, _, _], _ => rfl, ok__law_spoilt (C := C) F14 b⟩
  have f__law_due : Dfn l.prog w C.K mg base C "_law_due" ["_law_text_here"] 6 m__law_due := ⟨_, _, PySem.W.mg_of X G a15, k15, F15.binds (ps := ["_law_text_here"]) fun _ _ _ _ _ _ us hl => match us, hl with | [_], _ => rfl, ok__law_due (C := C) F15 b ef_1 gx_NoBook f_checked⟩
  have fin : FnOk l.prog w C.K mg base (L2.CX l.prog w) 7 fa _ ["_law_script"] (spD C m_law_k23) := ok_law (C := C) F16 b ef_0 ef_1 ef_9 ef_100 ec gx_NearError gx_NoBook gx_NoText f__law_any f_shown f__law_text f_read f__law_mixed f__law_spoilt f__law_due
  refine fin.imp fun vs H Q E hh => ?_
  obtain ⟨a, ns, rfl, hS, hl, q⟩ := hh
  refine ⟨[.scr ns], plainH H, plain_sub, .cons (.scr (plain_sqL hS)) .nil, ?_⟩
  rw [TRUE ns hl]
  intro v H' G' _ hv
  cases hv
  exact q H'
end DL.K23
end
section
set_option Elab.async false
set_option linter.all false
set_option maxRecDepth 100000
set_option maxHeartbeats 4000000
namespace DL
open PySem
open L2 (atI ixN)
/-! ### reckoning what a body gives -/
section
variable {α β : Type} (a : AS) (i : Nat)
def R.bnd {α β : Type} (r : R α) (f : α → AS → R β) : R β := match r with
  | .ok x a' => f x a'
  | .exc c a' => .exc c a'
  | .bad => .bad
def R.sb {α : Type} (r : R α) (f : α → AS → RS) : RS := match r with
  | .ok x a' => f x a'
  | .exc c a' => .exc c a'
  | .bad => .bad
def RS.sq (r : RS) (f : AS → RS) : RS := match r with
  | .nx a' => f a'
  | r => r
def RV.at (r : RV) (a : AS) : R D := match r with
  | .ok d => .ok d a
  | .exc c => .exc c a
  | .bad => .bad
@[simp] theorem bnd_ok (x : α) (f : α → AS → R β) : (R.ok x a).bnd f = f x a := (rfl)
@[simp] theorem bnd_exc (c : Nat) (f : α → AS → R β) : (R.exc c a).bnd f = .exc c a := (rfl)
@[simp] theorem bnd_bad (f : α → AS → R β) : (R.bad : R α).bnd f = .bad := (rfl)
@[simp] theorem sb_ok (x : α) (f : α → AS → RS) : (R.ok x a).sb f = f x a := (rfl)
@[simp] theorem sb_exc (c : Nat) (f : α → AS → RS) : (R.exc c a).sb f = .exc c a := (rfl)
@[simp] theorem sb_bad (f : α → AS → RS) : (R.bad : R α).sb f = .bad := (rfl)
@[simp] theorem sq_nx (f : AS → RS) : (RS.nx a).sq f = f a := (rfl)
@[simp] theorem sq_ret (d : D) (f : AS → RS) : (RS.ret d a).sq f = .ret d a := (rfl)
@[simp] theorem sq_exc (c : Nat) (f : AS → RS) : (RS.exc c a).sq f = .exc c a := (rfl)
@[simp] theorem sq_brk (f : AS → RS) : (RS.brk a).sq f = .brk a := (rfl)
@[simp] theorem sq_ct (f : AS → RS) : (RS.ct a).sq f = .ct a := (rfl)
@[simp] theorem at_ok (d : D) : (RV.ok d).at a = .ok d a := (rfl)
@[simp] theorem at_exc (c : Nat) : (RV.exc c).at a = .exc c a := (rfl)
theorem ap_bind (m : M α) (f : α → M β) : M.bind m f a = (m a).bnd f := by unfold M.bind; cases m a <;> rfl
@[simp] theorem ap_bind' (m : M α) (f : α → M β) : M.bind m f a = (m a).bnd fun x a1 => f x a1 := ap_bind a m f
@[simp] theorem ap_pure (x : α) : M.pure x a = .ok x a := (rfl)
@[simp] theorem ap_lftS (x : α) : lft (some x) a = .ok x a := (rfl)
@[simp] theorem ap_lftN : lft (none : Option α) a = .bad := (rfl)
def rdS (a : AS) (i : Nat) : Option DL.Slot → R D
  | some (.val d) => .ok d a
  | some (.own ds) => .ok (.lst ds) (a.set i (.val (.lst ds)))
  | some (.dK kvs) => .ok (.dic kvs) (a.set i (.val (.dic kvs)))
  | _ => .bad
@[simp] theorem rdS_val (d : D) : rdS a i (some (.val d)) = .ok d a := (rfl)
@[simp] theorem rdS_own (ds : List D) : rdS a i (some (.own ds)) = .ok (.lst ds) (a.set i (.val (.lst ds))) := (rfl)
@[simp] theorem ap_rd : rd i a = rdS a i a[i]? := by
  unfold rd rdS
  cases a[i]? with
  | none => rfl
  | some s => cases s <;> rfl
@[simp] theorem ap_eC (d : D) : eC d a = .ok d a := (rfl)
@[simp] theorem ap_e1 (F : D → Option D) (m : M D) : e1 F m a = (m a).bnd fun x a1 => lft (F x) a1 := ap_bind _ _ _
@[simp] theorem ap_e2 (F : D → D → Option D) (m n : M D) : e2 F m n a = (m a).bnd fun x a1 => (n a1).bnd fun y a2 => lft (F x y) a2 := by
  unfold e2
  rw [ap_bind]
  all_goals (
    congr 1
    try (funext x a1; exact ap_bind _ _ _))
@[simp] theorem ap_eN (F : List D → Option D) (m : M (List D)) : eN F m a = (m a).bnd fun x a1 => lft (F x) a1 := ap_bind _ _ _
@[simp] theorem ap_aNil : aNil a = .ok [] a := (rfl)
@[simp] theorem ap_aCons (m : M D) (n : M (List D)) : aCons m n a = (m a).bnd fun x a1 => (n a1).bnd fun y a2 => .ok (x :: y) a2 := by
  unfold aCons
  rw [ap_bind]
  all_goals (
    congr 1
    try (funext x a1; exact ap_bind _ _ _))
@[simp] theorem ap_mB (m : M D) : mB m a = (m a).bnd fun x a1 => lft (asB x) a1 := ap_bind _ _ _
@[simp] theorem asB_bl (b : Bool) : asB (.bl b) = some b := (rfl)
@[simp] theorem ap_bAnd (m n : M Bool) : bAnd m n a = (m a).bnd fun b a1 => if b = true then n a1 else .ok false a1 := by
  unfold bAnd
  rw [ap_bind]
  all_goals (
    congr 1
    funext b a1
    cases b <;> rfl)
@[simp] theorem ap_bOr (m n : M Bool) : bOr m n a = (m a).bnd fun b a1 => if b = true then .ok true a1 else n a1 := by
  unfold bOr
  rw [ap_bind]
  all_goals (
    congr 1
    funext b a1
    cases b <;> rfl)
@[simp] theorem ap_bNot (m : M Bool) : bNot m a = (m a).bnd fun b a1 => .ok (!b) a1 := ap_bind _ _ _
@[simp] theorem ap_vAnd (m n : M D) : vAnd m n a = (mB m a).bnd fun b a1 => if b = true then n a1 else .ok (.bl false) a1 := by
  unfold vAnd
  rw [ap_bind]
  all_goals (
    congr 1
    funext b a1
    cases b <;> rfl)
@[simp] theorem ap_vOr (m n : M D) : vOr m n a = (mB m a).bnd fun b a1 => if b = true then .ok (.bl true) a1 else n a1 := by
  unfold vOr
  rw [ap_bind]
  all_goals (
    congr 1
    funext b a1
    cases b <;> rfl)
@[simp] theorem ap_vNot (m : M D) : vNot m a = (mB m a).bnd fun b a1 => .ok (.bl (!b)) a1 := ap_bind _ _ _
@[simp] theorem ap_e3c (F F' : D → D → Option D) (m n o : M D) : e3c F F' m n o a = (m a).bnd fun x a1 => (n a1).bnd fun y a2 => (lft ((F x y).bind asB) a2).bnd fun b a3 => if b = true then (o a3).bnd fun w a4 => lft (F' y w) a4 else .ok (.bl false) a3 := by
  unfold e3c
  rw [ap_bind]
  all_goals (
    congr 1
    funext x a1
    rw [ap_bind]
    congr 1
    funext y a2
    rw [ap_bind]
    cases F x y with
    | none => rfl
    | some z =>
      cases z with
      | bl b =>
        cases b with
        | true => exact ap_bind _ _ _
        | false => rfl
      | _ => rfl)
@[simp] theorem ap_eCall (F : Fn) (m : M (List D)) : eCall F m a = (m a).bnd fun ds a1 => (F ds).at a1 := by
  unfold eCall
  rw [ap_bind]
  all_goals (
    congr 1)
@[simp] theorem ap_isiF (T : String) (m : M D) : isiF T m a = (m a).bnd fun d a1 => lft ((match d with
    | .ref _ => none
    | .memo _ _ => none
    | .obj _ _ => none
    | d => L2.kitB (tyD d) T).map D.bl) a1 := ap_bind _ _ _
@[simp] theorem ap_mIt (m : M D) : mIt m a = (m a).bnd fun d a1 => lft (itF d) a1 := ap_bind _ _ _
@[simp] theorem ap_gN (d : D) : gN i d a = some (a.set i (.val d)) := (rfl)
@[simp] theorem ap_gNils : gNils [] a = some a := (rfl)
@[simp] theorem ap_gConss (g : Tg) (r : List D → AS → Option AS) (d : D) (ds : List D) : gConss g r (d :: ds) a = (g d a).bind (r ds) := (rfl)
@[simp] theorem ap_gT (g : List D → AS → Option AS) (n : Nat) (ds : List D) : gT g n (.tup ds) a = if ds.length = n then g ds a else none := (rfl)
/-! statements -/
theorem ap_sBind (m : M α) (f : α → MS) : sBind m f a = (m a).sb f := by unfold sBind; cases m a <;> rfl
@[simp] theorem ap_sBind' (m : M α) (f : α → MS) : sBind m f a = (m a).sb fun x a1 => f x a1 := ap_sBind a m f
@[simp] theorem ap_sSeq (m n : MS) : sSeq m n a = (m a).sq n := by unfold sSeq; cases m a <;> rfl
@[simp] theorem ap_sRet (m : M D) : sRet m a = (m a).sb fun d a1 => .ret d a1 := ap_sBind _ _ _
@[simp] theorem ap_sDrop (m : M D) : sDrop m a = (m a).sb fun _ a1 => .nx a1 := ap_sBind _ _ _
@[simp] theorem ap_sIf (t : M Bool) (m n : MS) : sIf t m n a = (t a).sb fun b a1 => if b = true then m a1 else n a1 := by
  unfold sIf
  rw [ap_sBind]
  all_goals (
    congr 1
    funext b a1
    cases b <;> rfl)
def gS : Option AS → RS
  | some a => .nx a
  | none => .bad
@[simp] theorem gS_some : gS (some a) = .nx a := (rfl)
@[simp] theorem ap_sAsg (m : M D) (g : Tg) : sAsg m g a = (m a).sb fun d a1 => gS (g d a1) := by
  unfold sAsg
  rw [ap_sBind]
  all_goals (
    congr 1)
@[simp] theorem ap_sOwn (s : α → DL.Slot) (m : M α) : sOwn s m i a = (m a).sb fun x a1 => .nx (a1.set i (s x)) := ap_sBind _ _ _
@[simp] theorem ap_sFor (mi : M (List D)) (g : Tg) (body : MS) : sFor mi g body a = (mi a).sb fun ds a1 => forD g body ds a1 := ap_sBind _ _ _
end
/-! operators -/
@[simp] theorem F_ltI (i j : Int) : ltI (.int i) (.int j) = some (.bl (decide (i < j))) := (rfl)
@[simp] theorem F_leI (i j : Int) : leI (.int i) (.int j) = some (.bl (decide (i ≤ j))) := (rfl)
@[simp] theorem F_gtI (i j : Int) : gtI (.int i) (.int j) = some (.bl (decide (j < i))) := (rfl)
@[simp] theorem F_geI (i j : Int) : geI (.int i) (.int j) = some (.bl (decide (j ≤ i))) := (rfl)
@[simp] theorem F_subI (i j : Int) : subI (.int i) (.int j) = some (.int (i - j)) := (rfl)
@[simp] theorem F_mulI (i j : Int) : mulI (.int i) (.int j) = if cMul i j = true then some (.int (i * j)) else none := (rfl)
@[simp] theorem F_modI (i j : Int) : modI (.int i) (.int j) = if cMod i j = true then some (.int (i % j)) else none := (rfl)
@[simp] theorem F_divI (i j : Int) : divI (.int i) (.int j) = if cDiv i j = true then some (.int (i / j)) else none := (rfl)
@[simp] theorem F_powI (i j : Int) : powI (.int i) (.int j) = if cPow i j = true then some (.int (i ^ j.toNat)) else none := (rfl)
@[simp] theorem F_negI (i : Int) : negI (.int i) = some (.int (-i)) := (rfl)
@[simp] theorem F_addI (i j : Int) : addF (.int i) (.int j) = some (.int (i + j)) := (rfl)
@[simp] theorem F_addT (xs ys : List D) : addF (.tup xs) (.tup ys) = if sz (xs.length + ys.length) = true then some (.tup (xs ++ ys)) else none := (rfl)
@[simp] theorem F_addL (xs ys : List D) : addF (.lst xs) (.lst ys) = if sz (xs.length + ys.length) = true then some (.lst (xs ++ ys)) else none := (rfl)
@[simp] theorem F_lenT (xs : List D) : lenF [.tup xs] = some (.int xs.length) := (rfl)
@[simp] theorem F_lenL (xs : List D) : lenF [.lst xs] = some (.int xs.length) := (rfl)
@[simp] theorem F_lenS (xs : List Int) : lenF [.scr xs] = some (.int xs.length) := (rfl)
@[simp] theorem F_ixT (xs : List D) (i : Int) : ixF (.tup xs) (.int i) = atI xs i := (rfl)
@[simp] theorem F_ixL (xs : List D) (i : Int) : ixF (.lst xs) (.int i) = atI xs i := (rfl)
@[simp] theorem F_ixS (xs : List Int) (i : Int) : ixF (.scr xs) (.int i) = (atI xs i).map D.int := (rfl)
@[simp] theorem F_tupT (xs : List D) : tupleF [.tup xs] = some (.tup xs) := (rfl)
@[simp] theorem F_tupL (xs : List D) : tupleF [.lst xs] = some (.tup xs) := (rfl)
@[simp] theorem F_intI (i : Int) : intF [.int i] = some (.int i) := (rfl)
@[simp] theorem F_intB (b : Bool) : intF [.bl b] = some (.int (if b = true then 1 else 0)) := (rfl)
@[simp] theorem F_itL (xs : List D) : itF (.lst xs) = some xs := (rfl)
@[simp] theorem F_itT (xs : List D) : itF (.tup xs) = some xs := (rfl)
@[simp] theorem F_rng1 (j : Int) : rng1F [.int j] = if smallI j = true then some (rangeL 0 j.toNat) else none := (rfl)
@[simp] theorem F_rng2 (i j : Int) : rng2F [.int i, .int j] = if (smallI i && smallI j) = true then some (rangeL i (j - i).toNat) else none := (rfl)
@[simp] theorem F_zipT (xs ys : List D) : zipF [.tup xs, .tup ys] = some (zipL xs ys) := (rfl)
@[simp] theorem F_zipL (xs ys : List D) : zipF [.lst xs, .lst ys] = some (zipL xs ys) := (rfl)
@[simp] theorem F_enum (xs : List D) : enF [.lst xs] = some (enumL 0 xs) := (rfl)
@[simp] theorem F_lst (xs : List D) : lstF xs = if sz xs.length = true then some (.lst xs) else none := (rfl)
@[simp] theorem F_tup (xs : List D) : tupF xs = if sz xs.length = true then some (.tup xs) else none := (rfl)
@[simp] theorem F_own (xs : List D) : ownF xs = if sz xs.length = true then some xs else none := (rfl)
@[simp] theorem F_all (xs : List D) : allF [.lst xs] = (bls xs).map fun bs => .bl (bs.all id) := (rfl)
@[simp] theorem F_eq (d e : D) : eqF d e = if (lvl 60 d && lvl 60 e) = true then some (.bl (eqd d e)) else none := (rfl)
@[simp] theorem F_ne (d e : D) : neF d e = if (lvl 60 d && lvl 60 e) = true then some (.bl (!eqd d e)) else none := (rfl)
@[simp] theorem cMul_l (i j : Int) (h1 : -(2 ^ 64) < i) (h2 : i < 2 ^ 64) : cMul i j = true := decide_eq_true (.inl ⟨h1, h2⟩)
theorem cMul_r (i j : Int) (h1 : -(2 ^ 64) < j) (h2 : j < 2 ^ 64) : cMul i j = true := decide_eq_true (.inr ⟨h1, h2⟩)
/-! equality -/
@[simp] theorem lvl_int (n : Nat) (i : Int) : lvl n (.int i) = true := by cases n <;> rfl
@[simp] theorem lvl_bl (n : Nat) (i : Bool) : lvl n (.bl i) = true := by cases n <;> rfl
@[simp] theorem lvl_non (n : Nat) : lvl n .non = true := by cases n <;> rfl
@[simp] theorem lvl_tup (n : Nat) (xs : List D) : lvl (n + 1) (.tup xs) = lvls n xs := (rfl)
@[simp] theorem lvl_lst (n : Nat) (xs : List D) : lvl (n + 1) (.lst xs) = lvls n xs := (rfl)
@[simp] theorem lvl_scr (n : Nat) (xs : List Int) : lvl (n + 1) (.scr xs) = true := (rfl)
@[simp] theorem lvls_nil (n : Nat) : lvls n [] = true := by cases n <;> rfl
@[simp] theorem lvls_cons (n : Nat) (d : D) (ds : List D) : lvls n (d :: ds) = (lvl n d && lvls n ds) := by cases n <;> rfl
theorem lvls_all (n : Nat) : ∀ xs : List D, lvls n xs = xs.all (lvl n)
  | [] => by simp
  | d :: ds => by rw [lvls_cons, List.all_cons, lvls_all n ds]
@[simp] theorem lvls_map {γ : Type} (n : Nat) (f : γ → D) (xs : List γ) (h : ∀ x, lvl n (f x) = true) : lvls n (xs.map f) = true := by
  rw [lvls_all]
  simp [h]
theorem lvls_of {n : Nat} {xs : List D} (h : ∀ d ∈ xs, lvl n d = true) : lvls n xs = true := by
  rw [lvls_all]
  exact List.all_eq_true.mpr h
@[simp] theorem eqd_int (i j : Int) : eqd (.int i) (.int j) = decide (i = j) := eqv_ii i j
@[simp] theorem eqd_bl (i j : Bool) : eqd (.bl i) (.bl j) = decide (i = j) := by
  show PyData.eqv (.bool i) (.bool j) = _
  unfold PyData.eqv
  cases i <;> cases j <;> rfl
def eqds : List D → List D → Bool
  | [], [] => true
  | x :: xs, y :: ys => eqd x y && eqds xs ys
  | _, _ => false
theorem eqvAll_eq : ∀ xs ys : List D, PyData.eqvAll (toPs xs) (toPs ys) = eqds xs ys
  | [], [] => by unfold toPs PyData.eqvAll; rfl
  | [], _ :: _ => by unfold toPs PyData.eqvAll; rfl
  | _ :: _, [] => by unfold toPs PyData.eqvAll; rfl
  | x :: xs, y :: ys => by
    unfold toPs PyData.eqvAll
    rw [eqvAll_eq xs ys]
    rfl
@[simp] theorem eqd_tup (xs ys : List D) : eqd (.tup xs) (.tup ys) = eqds xs ys := by
  show PyData.eqv (toP (.tup xs)) (toP (.tup ys)) = _
  unfold toP PyData.eqv
  exact eqvAll_eq xs ys
@[simp] theorem eqd_lst (xs ys : List D) : eqd (.lst xs) (.lst ys) = eqds xs ys := by
  show PyData.eqv (toP (.lst xs)) (toP (.lst ys)) = _
  unfold toP PyData.eqv
  exact eqvAll_eq xs ys
@[simp] theorem eqds_nil : eqds [] [] = true := (rfl)
@[simp] theorem eqds_nc (x : D) (xs : List D) : eqds [] (x :: xs) = false := (rfl)
@[simp] theorem eqds_cn (x : D) (xs : List D) : eqds (x :: xs) [] = false := (rfl)
@[simp] theorem eqds_cons (x y : D) (xs ys : List D) : eqds (x :: xs) (y :: ys) = (eqd x y && eqds xs ys) := (rfl)
@[simp] theorem eqd_scr (xs : List Int) (ys : List D) : eqd (.scr xs) (.lst ys) = eqds (xs.map D.int) ys := by
  show PyData.eqv (toP (.scr xs)) (toP (.lst ys)) = _
  unfold toP PyData.eqv
  rw [← eqvAll_eq]
  congr 1
  induction xs with
  | nil => unfold List.map toPs; rfl
  | cons x xs ih => rw [List.map_cons, List.map_cons, ih]; conv => rhs; unfold toPs toP
/-! indices -/
@[simp] theorem atI_0 {γ : Type} (x : γ) (xs : List γ) : atI (x :: xs) 0 = some x := by
  unfold atI ixN
  simp
theorem atI_at {γ : Type} {xs : List γ} {i : Int} (h : 0 ≤ i) (h2 : i < xs.length) : atI xs i = xs[i.toNat]? := by
  unfold atI ixN
  rw [if_pos h, if_pos h2]
  rfl
@[simp] theorem atI_1 {γ : Type} (x y : γ) (xs : List γ) : atI (x :: y :: xs) 1 = some y := by
  rw [atI_at (by decide) (by simp; omega)]
  rfl
def RS.out : RS → RV
  | .nx _ => .ok .non
  | .ret d _ => .ok d
  | .exc c _ => .exc c
  | _ => .bad
@[simp] theorem out_nx (a : AS) : (RS.nx a).out = .ok .non := (rfl)
@[simp] theorem out_ret (d : D) (a : AS) : (RS.ret d a).out = .ok d := (rfl)
@[simp] theorem out_exc (c : Nat) (a : AS) : (RS.exc c a).out = .exc c := (rfl)
theorem mkF_at (n N : Nat) (b : MS) (ds : List D) (h : ds.length = n) : mkF n N b ds = (b (ds.map DL.Slot.val ++ List.replicate (N - n) DL.Slot.no)).out := by
  unfold mkF
  rw [if_pos h]
  cases b (ds.map DL.Slot.val ++ List.replicate (N - n) DL.Slot.no) <;> rfl
end DL
end
section
set_option Elab.async false
set_option linter.all false
set_option maxRecDepth 100000
set_option maxHeartbeats 4000000
namespace DL
open PySem
open L2 (atI ixN)
/-! ### comprehensions, loops: what they give -/
theorem wipe_back {a a' : AS} {vs : List Nat} (h : wipeA a' vs = wipeA a vs) : restA a a' vs = restA a a vs := by
  refine List.ext_getElem? fun j => ?_
  have hl : a'.length = a.length := by
    have := congrArg List.length h
    rwa [wipeA_length, wipeA_length] at this
  rw [restA_get, restA_get, hl]
  by_cases e : j ∈ vs ∧ j < a.length
  · rw [if_pos e, if_pos e]
  · rw [if_neg e, if_neg e]
    have := congrArg (fun (l : AS) => l[j]?) h
    simp only [wipeA_get, hl] at this
    rwa [if_neg e, if_neg e] at this
theorem cmpD_gen {γ : Type} (vs : List Nat) (g : Tg) (t : M Bool) (e : M D) (inj f : γ → D) (p : γ → Bool) (a0 : AS) : ∀ (xs : List γ) (a : AS), wipeA a vs = wipeA a0 vs →
    (∀ x ∈ xs, ∃ a1, g (inj x) (wipeA a0 vs) = some a1 ∧ t a1 = .ok (p x) a1 ∧ (p x = true → e a1 = .ok (f x) a1) ∧ wipeA a1 vs = wipeA a0 vs) →
    ∃ a', cmpD vs g t e (xs.map inj) a = .ok ((xs.filter p).map f) a' ∧ wipeA a' vs = wipeA a0 vs
  | [], a, ha, _ => ⟨a, rfl, ha⟩
  | x :: xs, a, ha, h => by
    obtain ⟨a1, h1, h2, h3, h4⟩ := h x List.mem_cons_self
    obtain ⟨a', h5, h6⟩ := cmpD_gen vs g t e inj f p a0 xs a1 h4 fun y hy => h y (List.mem_cons_of_mem _ hy)
    refine ⟨a', ?_, h6⟩
    rw [List.map_cons]
    unfold cmpD
    rw [ha, h1]
    simp only [h2]
    cases hp : p x with
    | true => simp only [h3 hp, h5]; rw [List.filter_cons, hp, if_pos rfl]; rfl
    | false => simp only [h5]; rw [List.filter_cons, hp, if_neg Bool.false_ne_true]
theorem LC_filter {γ : Type} {vs : List Nat} {mi : M (List D)} {g : Tg} {t : M Bool} {e : M D} {a : AS} (xs : List γ) (inj f : γ → D) (p : γ → Bool) (hi : mi a = .ok (xs.map inj) a) (hz : sz xs.length = true) (hr : restA a a vs = a)
    (h : ∀ x ∈ xs, ∃ a1, g (inj x) (wipeA a vs) = some a1 ∧ t a1 = .ok (p x) a1 ∧ (p x = true → e a1 = .ok (f x) a1) ∧ wipeA a1 vs = wipeA a vs) : eLC vs mi g t e a = .ok (.lst ((xs.filter p).map f)) a := by
  obtain ⟨a', h1, h2⟩ := cmpD_gen vs g t e inj f p a xs a rfl h
  unfold eLC
  rw [ap_bind, hi, bnd_ok]
  rw [List.length_map, if_pos hz, h1]
  show R.ok (D.lst _) (restA a a' vs) = _
  rw [wipe_back h2, hr]
theorem LC_map {γ : Type} {vs : List Nat} {mi : M (List D)} {g : Tg} {e : M D} {a : AS} (xs : List γ) (inj f : γ → D) (hi : mi a = .ok (xs.map inj) a) (hz : sz xs.length = true) (hr : restA a a vs = a)
    (h : ∀ x ∈ xs, ∃ a1, g (inj x) (wipeA a vs) = some a1 ∧ e a1 = .ok (f x) a1 ∧ wipeA a1 vs = wipeA a vs) : eLC vs mi g (M.pure true) e a = .ok (.lst (xs.map f)) a := by
  have := LC_filter (vs := vs) (mi := mi) (g := g) (t := M.pure true) (e := e) (a := a) xs inj f (fun _ => true) hi hz hr fun x hx => by
    obtain ⟨a1, h1, h2, h3⟩ := h x hx
    exact ⟨a1, h1, rfl, fun _ => h2, h3⟩
  rw [this]
  congr 3
  rw [List.filter_eq_self.mpr (fun _ _ => rfl)]
theorem rangeL_0 (n : Nat) : rangeL 0 n = (List.range n).map fun (i : Nat) => D.int (i : Int) := by
  unfold rangeL
  congr 1
  funext i
  rw [Int.zero_add]
theorem zipL_map {γ δ : Type} (f : γ → D) (h : δ → D) : ∀ (xs : List γ) (ys : List δ), zipL (xs.map f) (ys.map h) = (xs.zip ys).map fun p => .tup [f p.1, h p.2]
  | [], _ => by simp [zipL]
  | _ :: _, [] => by simp [zipL]
  | x :: xs, y :: ys => by
    rw [List.map_cons, List.map_cons, List.zip_cons_cons, List.map_cons, ← zipL_map f h xs ys]
    rfl
theorem forD_inv {γ : Type} {g : Tg} {body : MS} (inj : γ → D) (I : Nat → AS → Prop) : ∀ (xs : List γ) (k : Nat) (a : AS), I k a →
    (∀ i x a, xs[i]? = some x → I (k + i) a → ∃ a1 a2, g (inj x) a = some a1 ∧ (body a1 = .nx a2 ∨ body a1 = .ct a2) ∧ I (k + i + 1) a2) → ∃ a', forD g body (xs.map inj) a = .nx a' ∧ I (k + xs.length) a'
  | [], k, a, h, _ => ⟨a, rfl, h⟩
  | x :: xs, k, a, h, hs => by
    obtain ⟨a1, a2, h1, h2, h3⟩ := hs 0 x a rfl h
    obtain ⟨a', h4, h5⟩ := forD_inv inj I xs (k + 1) a2 h3 fun i y b hy hb => by
      have := hs (i + 1) y b (by simpa using hy) (by rw [show k + (i + 1) = k + 1 + i by omega]; exact hb)
      rw [show k + (i + 1) = k + 1 + i by omega] at this
      exact this
    refine ⟨a', ?_, by rw [show k + (x :: xs).length = k + 1 + xs.length by simp; omega]; exact h5⟩
    rw [List.map_cons]
    unfold forD
    rw [h1]
    rcases h2 with h2 | h2
    · simp only [h2]; exact h4
    · simp only [h2]; exact h4
/-! numbers -/
theorem sz_le {n : Nat} (h : n ≤ 100000) : sz n = true := decide_eq_true h
theorem smallI_nat {n : Nat} (h : n ≤ 100000) : smallI (n : Int) = true := decide_eq_true (by omega)
theorem smallI_of {j : Int} (h : -1000000 ≤ j) (h2 : j ≤ 1000000) : smallI j = true := decide_eq_true (by omega)
@[simp] theorem sumF_ints (ns : List Int) : sumF [.lst (ns.map D.int)] = some (.int ns.sum) := by
  show (asIs (ns.map D.int)).map _ = _
  rw [asIs_map]
  rfl
theorem minF_ints {ns : List Int} (h : ns ≠ []) : minF [.lst (ns.map D.int)] = some (.int (minL ns)) := by
  unfold minF numsF
  simp only [asIs_map, Option.bind_some]
  cases ns with
  | nil => exact absurd rfl h
  | cons _ _ => rfl
theorem maxF_ints {ns : List Int} (h : ns ≠ []) : maxF [.lst (ns.map D.int)] = some (.int (maxL ns)) := by
  unfold maxF numsF
  simp only [asIs_map, Option.bind_some]
  cases ns with
  | nil => exact absurd rfl h
  | cons _ _ => rfl
theorem allF_bls (bs : List Bool) : allF [.lst (bs.map D.bl)] = some (.bl (bs.all id)) := by
  show (bls (bs.map D.bl)).map _ = _
  rw [bls_map]
  rfl
/-! words and books as data -/
def dI (w : List Int) : D := .tup (w.map D.int)
def dB (L : Int) (ws : List (List Int)) : D := .tup [.int L, .tup (ws.map dI)]
@[simp] theorem lvl_dI (n : Nat) (w : List Int) : lvl (n + 1) (dI w) = true := by
  unfold dI
  rw [lvl_tup]
  exact lvls_map n _ w fun x => lvl_int n x
@[simp] theorem lvl_dB (n : Nat) (L : Int) (ws : List (List Int)) : lvl (n + 3) (dB L ws) = true := by
  unfold dB
  rw [lvl_tup, lvls_cons, lvl_int, lvls_cons, lvl_tup, lvls_nil, Bool.true_and, Bool.and_true]
  exact lvls_map _ _ ws fun x => lvl_dI n x
theorem eqds_ints : ∀ (xs ys : List Int), eqds (xs.map D.int) (ys.map D.int) = decide (xs = ys)
  | [], [] => rfl
  | [], _ :: _ => rfl
  | _ :: _, [] => rfl
  | x :: xs, y :: ys => by
    rw [List.map_cons, List.map_cons, eqds_cons, eqd_int, eqds_ints xs ys]
    by_cases h : x = y
    · subst h; simp
    · simp [h]
@[simp] theorem eqd_dI (u w : List Int) : eqd (dI u) (dI w) = decide (u = w) := by
  unfold dI
  rw [eqd_tup, eqds_ints]
end DL
namespace DL
open PySem
section
variable (N : Nat) (b : MS) (x y z u : D)
@[simp] theorem mkF1 : mkF 1 N b [x] = (b (DL.Slot.val x :: List.replicate (N - 1) DL.Slot.no)).out := mkF_at _ _ _ _ rfl
@[simp] theorem mkF2 : mkF 2 N b [x, y] = (b (DL.Slot.val x :: DL.Slot.val y :: List.replicate (N - 2) DL.Slot.no)).out := mkF_at _ _ _ _ rfl
@[simp] theorem mkF3 : mkF 3 N b [x, y, z] = (b (DL.Slot.val x :: DL.Slot.val y :: DL.Slot.val z :: List.replicate (N - 3) DL.Slot.no)).out := mkF_at _ _ _ _ rfl
@[simp] theorem mkF4 : mkF 4 N b [x, y, z, u] = (b (DL.Slot.val x :: DL.Slot.val y :: DL.Slot.val z :: DL.Slot.val u :: List.replicate (N - 4) DL.Slot.no)).out := mkF_at _ _ _ _ rfl
end
end DL
namespace DL
@[simp] theorem sz_un (n : Nat) : sz n = decide (n ≤ 100000) := (rfl)
@[simp] theorem atO {α : Type} (a : α) : (some a).isSome = true := (rfl)
end DL
end
section
set_option Elab.async false
set_option linter.all false
set_option maxRecDepth 100000
set_option maxHeartbeats 400000
namespace DL.NA
open PySem DL
open L2 (atI ixN)
theorem cell_ok (ns : List Int) (k : Int) (hk : 0 ≤ k) : ∃ c, m__law_cell_at [.scr ns, .int k] = .ok (.int c) := by
  unfold m__law_cell_at b__law_cell_at
  rw [mkF2]
  by_cases h : k < ns.length
  · have e : atI ns k = some (ns[k.toNat]'(by omega)) := by rw [atI_at hk h]; simp
    simp [h, e]
  · cases ns with
    | nil =>
      have h' : ¬ k < 0 := by omega
      simp [h']
    | cons x r =>
      have e : ∃ c, atI (x :: r) (k % ((r.length : Int) + 1)) = some c := by
        have h1 : 0 ≤ k % ((r.length : Int) + 1) := Int.emod_nonneg _ (by omega)
        have h2 : k % ((r.length : Int) + 1) < (r.length : Int) + 1 := Int.emod_lt_of_pos _ (by omega)
        rw [atI_at h1 (by simpa using h2)]
        exact ⟨_, List.getElem?_eq_getElem (by simp; omega)⟩
      obtain ⟨c, e⟩ := e
      have hm : cMod k ((r.length : Int) + 1) = true := decide_eq_true (by omega)
      have h' : ¬ k < (r.length : Int) + 1 := by simpa using h
      simp [h', e, hm, cMul_r]
/-- the drawn number -/
def mixd (ns : List Int) (k many : Int) : Int := match m__law_mixed [.scr ns, .int k, .int many] with
  | .ok (.int i) => i
  | _ => 0
theorem mixed_ok (ns : List Int) {k many : Int} (hk : 0 ≤ k) (hm : 0 < many) : m__law_mixed [.scr ns, .int k, .int many] = .ok (.int (mixd ns k many)) ∧ 0 ≤ mixd ns k many ∧ mixd ns k many < many := by
  have key : ∃ i, m__law_mixed [.scr ns, .int k, .int many] = .ok (.int i) ∧ 0 ≤ i ∧ i < many := by
    obtain ⟨c, hc⟩ := cell_ok ns k hk
    unfold m__law_mixed b__law_mixed
    rw [mkF3]
    have h1 : cMul (c + 7919 * k + 1) 48271 = true := cMul_r _ _ (by decide) (by decide)
    have h2 : cMul 7919 k = true := cMul_l _ _ (by decide) (by decide)
    have n1 : 0 ≤ (c + 7919 * k + 1) * 48271 % 2147483647 := Int.emod_nonneg _ (by decide)
    have n2 : (c + 7919 * k + 1) * 48271 % 2147483647 < 2147483647 := Int.emod_lt_of_pos _ (by decide)
    have m1 : cMod ((c + 7919 * k + 1) * 48271) 2147483647 = true := rfl
    simp [hc, h1, h2, m1, Nat.reduceSub]
    generalize (c + 7919 * k + 1) * 48271 % 2147483647 = dr at n1 n2
    have h3 : cMul dr dr = true := cMul_l _ _ (by omega) (by omega)
    have h4 : cMul 7 dr = true := cMul_l _ _ (by decide) (by decide)
    have h5 : ∀ z, cMod z 2147483629 = true := fun _ => rfl
    have h6 : ∀ z, cMod z many = true := fun _ => decide_eq_true hm
    simp [h3, h4, h5, h6]
    exact ⟨ Int.emod_nonneg _ (by omega), Int.emod_lt_of_pos _ hm⟩
  obtain ⟨i, h1, h2, h3⟩ := key
  have e : mixd ns k many = i := by unfold mixd; rw [h1]
  rw [e]
  exact ⟨h1, h2, h3⟩
/-- a drawn word -/
def wrd (ns : List Int) (at_ letters : Int) (size : Nat) : List Int := (List.range size).map fun (i : Nat) => mixd ns (at_ + (i : Int)) letters
theorem word_ok (ns : List Int) {p letters : Int} {size : Nat} (hp : 0 ≤ p) (hl : 0 < letters) (hs : size ≤ 1000) : m__law_word [.scr ns, .int p, .int letters, .int (size : Int)] = .ok (dI (wrd ns p letters size)) := by
  unfold m__law_word b__law_word
  rw [mkF4]
  have hr : (M.bind (aCons (rd 3) aNil) fun ds => lft (rng1F ds)) [Slot.val (.scr ns), .val (.int p), .val (.int letters), .val (.int (size : Int)), .no] = .ok ((List.range size).map fun (i : Nat) => D.int (i : Int)) [Slot.val (.scr ns), .val (.int p), .val (.int letters), .val (.int (size : Int)), .no] := by
    have h1 : smallI (size : Int) = true := smallI_nat (by omega)
    simp [h1, rangeL_0]
  have hl' := LC_map (vs := [4]) (g := gN 4) (e := eCall m__law_mixed (aCons (rd 0) (aCons (e2 addF (rd 1) (rd 4)) (aCons (rd 2) aNil)))) (List.range size) (fun (i : Nat) => D.int (i : Int)) (fun (i : Nat) => D.int (mixd ns (p + (i : Int)) letters)) hr (by simp; omega) rfl (fun i hi => by
    obtain ⟨h1, _⟩ := mixed_ok ns (k := p + (i : Int)) (many := letters) (by omega) hl
    refine ⟨_, rfl, ?_, rfl⟩
    simp [wipeA, h1])
  simp only [Nat.reduceSub, List.reduceReplicate, List.replicate, ap_sRet, ap_eN, ap_aCons, ap_aNil]
  rw [hl']
  simp [dI, wrd]
end DL.NA
end
section
set_option Elab.async false
set_option linter.all false
set_option maxRecDepth 100000
set_option maxHeartbeats 400000
namespace DL.NA
open PySem DL
open L2 (atI ixN)
@[simp] theorem kit_int_int : L2.kitB (tyD (.int i)) "int" = some true := by rfl
@[simp] theorem kit_int_bool : L2.kitB (tyD (.int i)) "bool" = some false := by rfl
@[simp] theorem kit_tup_tup : L2.kitB (tyD (.tup i)) "tuple" = some true := by rfl
@[simp] theorem kit_lst_tup : L2.kitB (tyD (.lst i)) "tuple" = some false := by rfl
@[simp] theorem kit_lst_lst : L2.kitB (tyD (.lst i)) "list" = some true := by rfl
@[simp] theorem bls_bl {γ : Type} (xs : List γ) (p : γ → Bool) : bls (xs.map fun x => D.bl (p x)) = some (xs.map p) := by
  rw [← bls_map, List.map_map]
  rfl
@[simp] theorem all_id {γ : Type} (xs : List γ) (p : γ → Bool) : (xs.map p).all id = xs.all p := by
  rw [List.all_map]
  rfl
/-- letters within bounds -/
def Lt (L : Int) (w : List Int) : Prop := ∀ x ∈ w, 0 ≤ x ∧ x < L
structure Bk (L : Int) (ws : List (List Int)) : Prop where
  l1 : 1 ≤ L
  l2 : L ≤ 3
  w1 : 1 ≤ ws.length
  w2 : ws.length ≤ 5
  len : ∀ w ∈ ws, w.length ≤ 6
  lt : ∀ w ∈ ws, Lt L w
@[simp] theorem between_ok (x lo hi : Int) : m_between [.int x, .int lo, .int hi] = .ok (.bl (decide (lo ≤ x) && decide (x ≤ hi))) := by
  unfold m_between b_between m_is_whole b_is_whole
  by_cases h : lo ≤ x <;> simp [h]
theorem is_word_ok {L most : Int} {w : List Int} (h1 : (w.length : Int) ≤ most) (h : Lt L w) (hz : w.length ≤ 1000) : m_is_word [dI w, .int L, .int most] = .ok (.bl true) := by
  unfold m_is_word b_is_word
  have hl := LC_map (vs := [3]) (mi := mIt (rd 0)) (g := gN 3) (e := eCall m_between (aCons (rd 3) (aCons (eC (.int 0)) (aCons (e2 subI (rd 1) (eC (.int 1))) aNil)))) (a := [Slot.val (dI w), .val (.int L), .val (.int most), .no]) w D.int (fun _ => D.bl true) (by simp [dI]) (by simp; omega) rfl (fun x hx => by
    have := h x hx
    have h1 : x ≤ L - 1 := by omega
    refine ⟨_, rfl, ?_, rfl⟩
    simp [wipeA, this.1, h1])
  have : ¬ most < (w.length : Int) := by omega
  rw [mkF3]
  simp [dI, this] at hl ⊢
  rw [hl]
  simp
theorem is_book_ok {L : Int} {ws : List (List Int)} (h : Bk L ws) : m_is_book [dB L ws] = .ok (.bl true) := by
  unfold m_is_book b_is_book
  have hl := LC_map (vs := [1]) (mi := mIt (e2 ixF (rd 0) (eC (.int 1)))) (g := gN 1) (e := eCall m_is_word (aCons (rd 1) (aCons (e2 ixF (rd 0) (eC (.int 0))) (aCons (eC (.int 6)) aNil)))) (a := [Slot.val (dB L ws), .no]) ws dI (fun _ => D.bl true) (by simp [dB]) (by have := h.w2; simp; omega) rfl (fun w hw => by
    have h1 := h.len w hw
    refine ⟨_, rfl, ?_, rfl⟩
    simp [wipeA, dB, is_word_ok (L := L) (most := 6) (w := w) (by omega) (h.lt w hw) (by omega)])
  have h1 := h.l1; have h2 := h.l2; have h3 : (1 : Int) ≤ ws.length := by have := h.w1; omega
  have h4 : (ws.length : Int) ≤ 5 := by have := h.w2; omega
  simp only [mkF1]
  simp [dB, h1, h2, h3, h4] at hl ⊢
  rw [hl]
  simp
@[simp] theorem checked_ok {L : Int} {ws : List (List Int)} (h : Bk L ws) : m_checked [dB L ws] = .ok (dB L ws) := by
  unfold m_checked b_checked
  simp [is_book_ok h]
structure Ev (L : Int) (n : Nat) (ws : List (List Int)) : Prop where
  l1 : 1 ≤ L
  l2 : L ≤ 3
  n6 : n ≤ 6
  w1 : 1 ≤ ws.length
  w2 : ws.length ≤ 5
  len : ∀ w ∈ ws, w.length = n
  lt : ∀ w ∈ ws, Lt L w
theorem Ev.bk {L n ws} (h : Ev L n ws) : Bk L ws := ⟨h.l1, h.l2, h.w1, h.w2, fun w hw => by rw [h.len w hw]; exact h.n6, h.lt⟩
theorem Ev.cons {L n ws} (h : Ev L n ws) : ∃ w r, ws = w :: r ∧ w.length = n := by
  cases ws with
  | nil => exact absurd h.w1 (by simp)
  | cons w r => exact ⟨w, r, rfl, h.len w List.mem_cons_self⟩
theorem len0 {L n ws} (h : Ev L n ws) : ∃ d, atI (ws.map dI) 0 = some d ∧ lenF [d] = some (.int n) := by
  obtain ⟨w, r, rfl, e⟩ := h.cons
  exact ⟨dI w, by simp, by simp [dI, e]⟩
theorem length_of_ok {L n ws} (h : Ev L n ws) : m_length_of [dB L ws] = .ok (.int n) := by
  unfold m_length_of b_length_of
  obtain ⟨d, d1, d2⟩ := len0 h
  simp [dB, d1, d2]
theorem need_even_ok {L n ws} (h : Ev L n ws) : m_need_even [dB L ws] = .ok .non := by
  unfold m_need_even b_need_even
  obtain ⟨d, d1, d2⟩ := len0 h
  have hl := LC_map (vs := [1]) (mi := mIt (e2 ixF (rd 0) (eC (.int 1)))) (g := gN 1) (e := e2 eqF (eN lenF (aCons (rd 1) aNil)) (eN lenF (aCons (e2 ixF (e2 ixF (rd 0) (eC (.int 1))) (eC (.int 0))) aNil))) (a := [Slot.val (dB L ws), .no]) ws dI (fun _ => D.bl true) (by simp [dB]) (by have := h.w2; simp; omega) rfl (fun w hw => by
    refine ⟨_, rfl, ?_, rfl⟩
    simp [wipeA, dB, dI, d1, d2, h.len w hw])
  simp only [mkF1]
  simp [checked_ok h.bk] at hl ⊢
  rw [hl]
  simp
end DL.NA
end
section
set_option Elab.async false
set_option linter.all false
set_option maxRecDepth 100000
set_option maxHeartbeats 400000
namespace DL.NA
open PySem DL
open L2 (atI ixN)
theorem wrd_lt (ns : List Int) {p L : Int} (n : Nat) (hp : 0 ≤ p) (hl : 0 < L) : Lt L (wrd ns p L n) := by
  intro x hx
  unfold wrd at hx
  obtain ⟨i, _, rfl⟩ := List.mem_map.mp hx
  exact (mixed_ok ns (k := p + (i : Int)) (by omega) hl).2
@[simp] theorem wrd_len (ns : List Int) (p L : Int) (n : Nat) : (wrd ns p L n).length = n := by simp [wrd]
theorem atI_nat {γ : Type} {xs : List γ} {i : Nat} : atI xs (i : Int) = xs[i]? := by
  by_cases h : i < xs.length
  · rw [atI_at (by omega) (by omega)]; simp
  · unfold atI ixN
    rw [if_pos (by omega), if_neg (by omega), List.getElem?_eq_none (by omega)]
    rfl
theorem nat_of {m k : Int} (h : 0 ≤ m ∧ m < k) : ∃ i : Nat, m = i ∧ i < k.toNat := ⟨m.toNat, by omega, by omega⟩
theorem letters5 {m : Int} (h : 0 ≤ m ∧ m < 5) : ∃ L : Int, atI [D.int 2, .int 3, .int 3, .int 2, .int 1] m = some (.int L) ∧ 1 ≤ L ∧ L ≤ 3 := by
  obtain ⟨i, rfl, h2⟩ := nat_of h
  rw [atI_nat]
  match i, h2 with
  | 0, _ => exact ⟨_, rfl, by decide⟩
  | 1, _ => exact ⟨_, rfl, by decide⟩
  | 2, _ => exact ⟨_, rfl, by decide⟩
  | 3, _ => exact ⟨_, rfl, by decide⟩
  | 4, _ => exact ⟨_, rfl, by decide⟩
theorem even_ok (ns : List Int) {p : Int} {wh most : Nat} (hp : 0 ≤ p) (h1 : 1 ≤ wh) (h5 : wh ≤ 5) (h6 : most ≤ 6) : ∃ L n ws, m__law_even [.scr ns, .int p, .int (wh : Int), .int (most : Int)] = .ok (dB L ws) ∧ Ev L n ws ∧ n ≤ most ∧ ws.length ≤ wh := by
  obtain ⟨a1, a2⟩ := mixed_ok ns (k := p) (many := 5) hp (by decide)
  obtain ⟨b1, b2⟩ := mixed_ok ns (k := p + 1) (many := (wh : Int)) (by omega) (by omega)
  obtain ⟨c1, c2⟩ := mixed_ok ns (k := p + 2) (many := (most : Int) + 1) (by omega) (by omega)
  obtain ⟨d1, d2⟩ := mixed_ok ns (k := p + 3) (many := 2) (by omega) (by decide)
  obtain ⟨L, g1, g2, g3⟩ := letters5 a2
  obtain ⟨w, hw, w5⟩ := nat_of b2
  obtain ⟨s, hs, s7⟩ := nat_of c2
  rw [hw] at b1
  rw [hs] at c1
  have key : ∀ (n : Nat), n ≤ most → ∃ (z : D), (eLC [7] (M.bind (aCons (rd 5) aNil) fun ds => lft (rng1F ds)) (gN 7) (M.pure true) (eCall m__law_word (aCons (rd 0) (aCons (e2 addF (e2 addF (rd 1) (eC (.int 4))) (e2 mulI (eC (.int 7)) (rd 7))) (aCons (rd 4) (aCons (rd 6) aNil)))))) [Slot.val (.scr ns), .val (.int p), .val (.int (wh : Int)), .val (.int (most : Int)), .val (.int L), .val (.int (1 + (w : Int))), .val (.int (n : Int)), .no] = .ok (.lst ((List.range (1 + w)).map fun (i : Nat) => dI (wrd ns (p + 4 + 7 * i) L n))) [Slot.val (.scr ns), .val (.int p), .val (.int (wh : Int)), .val (.int (most : Int)), .val (.int L), .val (.int (1 + (w : Int))), .val (.int (n : Int)), .no] := by
    intro n hn
    have r1 : smallI (1 + (w : Int)) = true := smallI_of (by omega) (by omega)
    have r2 : (1 + (w : Int)).toNat = 1 + w := by omega
    refine ⟨.non, LC_map (List.range (1 + w)) (fun (i : Nat) => D.int (i : Int)) (fun (i : Nat) => dI (wrd ns (p + 4 + 7 * i) L n)) (by simp [r1, r2, rangeL_0]) (by simp; omega) rfl fun i hi => ⟨_, rfl, ?_, rfl⟩⟩
    have r3 : cMul 7 (i : Int) = true := cMul_l _ _ (by decide) (by decide)
    simp [wipeA, r3, word_ok ns (p := p + 4 + 7 * i) (letters := L) (size := n) (by omega) (by omega) (by omega)]
  have fin : ∀ n, n ≤ most → Ev L n ((List.range (1 + w)).map fun (i : Nat) => wrd ns (p + 4 + 7 * i) L n) := fun n hn => by
    refine ⟨g2, g3, by omega, by simp, by simp; omega, fun v hv => ?_, fun v hv => ?_⟩
    · obtain ⟨i, _, rfl⟩ := List.mem_map.mp hv
      simp
    · obtain ⟨i, _, rfl⟩ := List.mem_map.mp hv
      exact wrd_lt ns n (by omega) (by omega)
  by_cases h : (s : Int) < 2 ∧ mixd ns (p + 3) 2 = 1
  · refine ⟨L, most, _, ?_, fin most (Nat.le_refl _), Nat.le_refl _, by simp; omega⟩
    unfold m__law_even b__law_even
    obtain ⟨_, hk⟩ := key most (Nat.le_refl _)
    simp [a1, b1, c1, d1, g1, h.1, h.2]
    rw [hk]
    simp [dB, List.map_map, Function.comp_def]
  · refine ⟨L, s, _, ?_, fin s (by omega), by omega, by simp; omega⟩
    unfold m__law_even b__law_even
    obtain ⟨_, hk⟩ := key s (by omega)
    by_cases h' : (s : Int) < 2
    · have h3 : ¬ mixd ns (p + 3) 2 = 1 := fun e => h ⟨h', e⟩
      simp [a1, b1, c1, d1, g1, h', h3]
      rw [hk]
      simp [dB, List.map_map, Function.comp_def]
    · simp [a1, b1, c1, d1, g1, h']
      rw [hk]
      simp [dB, List.map_map, Function.comp_def]
end DL.NA
end
section
set_option Elab.async false
set_option linter.all false
set_option maxRecDepth 100000
set_option maxHeartbeats 400000
namespace DL
open PySem
open L2 (atI ixN)
/-- a loop whose frame is a function of how many things were gone through -/
theorem forD_fr {γ J : Type} {g : Tg} {body : MS} (inj : γ → D) (fr : J → Nat → AS) : ∀ (xs : List γ) (j : J) (k : Nat),
    (∀ i x, xs[i]? = some x → ∀ j, ∃ j' a1, g (inj x) (fr j (k + i)) = some a1 ∧ body a1 = .nx (fr j' (k + i + 1))) → ∃ j', forD g body (xs.map inj) (fr j k) = .nx (fr j' (k + xs.length))
  | [], j, k, _ => ⟨j, rfl⟩
  | x :: xs, j, k, h => by
    obtain ⟨j1, a1, h1, h2⟩ := h 0 x rfl j
    obtain ⟨j2, h3⟩ := forD_fr (body := body) inj fr xs j1 (k + 1) fun i y hy j => by
      have := h (i + 1) y (by simpa using hy) j
      rw [show k + (i + 1) = k + 1 + i by omega] at this
      exact this
    refine ⟨j2, ?_⟩
    rw [List.map_cons]
    unfold forD
    rw [show k + 0 = k from rfl] at h1 h2
    rw [h1]
    simp only [h2]
    rw [h3, List.length_cons, show k + 1 + xs.length = k + (xs.length + 1) by omega]
theorem forD_frs {γ J : Type} {g : Tg} {body : MS} (inj : γ → D) (fr : J → Nat → AS) (xs : List γ) (j : J)
    (h : ∀ i x, xs[i]? = some x → ∀ j, ∃ j' a1, g (inj x) (fr j i) = some a1 ∧ body a1 = .nx (fr j' (i + 1))) : ∃ j', forD g body (xs.map inj) (fr j 0) = .nx (fr j' xs.length) := by
  have := forD_fr (g := g) (body := body) inj fr xs j 0 fun i x hx j => by
    rw [Nat.zero_add]
    exact h i x hx j
  rwa [Nat.zero_add] at this
/-- a loop over numbers -/
theorem forD_rng {J : Type} {g : Tg} {body : MS} (fr : J → Nat → AS) (n : Nat) (j : J)
    (h : ∀ i, i < n → ∀ j, ∃ j' a1, g (.int (i : Int)) (fr j i) = some a1 ∧ body a1 = .nx (fr j' (i + 1))) : ∃ j', forD g body (rangeL 0 n) (fr j 0) = .nx (fr j' n) := by
  rw [rangeL_0]
  have := forD_frs (g := g) (body := body) (fun (i : Nat) => D.int (i : Int)) fr (List.range n) j fun i x hx j => by
    obtain ⟨h1, h2⟩ := List.getElem?_eq_some_iff.mp hx
    rw [List.length_range] at h1
    rw [List.getElem_range] at h2
    subst h2
    exact h i h1 j
  rwa [List.length_range] at this
section
variable (a : AS) (i : Nat)
def mO {α : Type} : Option DL.Slot → R α → R α
  | some (.own _), r => r
  | _, _ => .bad
def mS (f : List D → List D → Option (D × List D)) (ds : List D) (a1 : AS) : Option DL.Slot → R D
  | some (.own xs) => (match f xs ds with
      | some (d, ys) => R.ok d (a1.set i (.own ys))
      | none => .bad)
  | _ => .bad
@[simp] theorem mO_own {α : Type} (xs : List D) (r : R α) : mO (some (.own xs)) r = r := (rfl)
@[simp] theorem mS_own (f : List D → List D → Option (D × List D)) (ds xs : List D) (a1 : AS) : mS i f ds a1 (some (.own xs)) = match f xs ds with
      | some (d, ys) => R.ok d (a1.set i (.own ys))
      | none => .bad := (rfl)
@[simp] theorem ap_eMut (f : List D → List D → Option (D × List D)) (m : M (List D)) : eMut i f m a = mO a[i]? ((m a).bnd fun ds a1 => mS i f ds a1 a1[i]?) := by
  unfold eMut
  cases a[i]? with
  | none => rfl
  | some s =>
    cases s with
    | own xs =>
      refine (ap_bind _ _ _).trans (congrArg _ (funext fun ds => funext fun a1 => ?_))
      cases a1[i]? with
      | none => rfl
      | some s => cases s <;> rfl
    | _ => rfl
@[simp] theorem F_app (xs : List D) (d : D) : appF xs [d] = if sz (xs.length + 1) = true then some (.non, xs ++ [d]) else none := (rfl)
@[simp] theorem F_ext (xs ys : List D) : extF xs [.lst ys] = if sz (xs.length + ys.length) = true then some (.non, xs ++ ys) else none := (rfl)
theorem F_pop (xs : List D) (j : Int) : popF xs [.int j] = if smallI j = true then (ixN xs.length j).bind fun j => xs[j]?.map fun d => (d, xs.eraseIdx j) else none := (rfl)
@[simp] theorem ap_eM (T : String) (F : D → List D → Option D) (m : M D) (n : M (List D)) : eM T F m n a = (m a).bnd fun d a1 => if tyM T d = true then (n a1).bnd fun ds a2 => lft (F d ds) a2 else .bad := by
  unfold eM
  rw [ap_bind]
  all_goals (
    congr 1
    funext d a1
    cases tyM T d with
    | true => exact ap_bind _ _ _
    | false => rfl)
@[simp] theorem ap_chk {α : Type} (m : M α) : chk i m a = if (peek a i).isSome = true then m a else .bad := by
  unfold chk
  cases peek a i <;> rfl
@[simp] theorem ap_look (f : D → Option D) : look i f a = lft ((peek a i).bind f) a := by
  unfold look
  cases (peek a i).bind f <;> rfl
def pS : Option DL.Slot → Option D
  | some (.val d) => some d
  | some (.own ds) => some (.lst ds)
  | _ => none
@[simp] theorem ap_peek : peek a i = pS a[i]? := by
  unfold peek pS
  cases a[i]? with
  | none => rfl
  | some s => cases s <;> rfl
@[simp] theorem pS_val (d : D) : pS (some (.val d)) = some d := (rfl)
@[simp] theorem pS_own (d : List D) : pS (some (.own d)) = some (.lst d) := (rfl)
end
end DL
end
section
set_option Elab.async false
set_option linter.all false
set_option maxRecDepth 100000
set_option maxHeartbeats 400000
namespace DL.NA
open PySem DL
open L2 (atI ixN)
/-- all words, in order -/
def wordsL (L : Nat) : Nat → List (List Int)
  | 0 => [[]]
  | n + 1 => (wordsL L n).flatMap fun w => (List.range L).map fun (l : Nat) => w ++ [(l : Int)]
theorem wordsL_len (L n : Nat) : ∀ w ∈ wordsL L n, w.length = n := by
  induction n with
  | zero => simp [wordsL]
  | succ n ih =>
    intro w hw
    simp only [wordsL, List.mem_flatMap, List.mem_map] at hw
    obtain ⟨v, hv, l, _, rfl⟩ := hw
    simp [ih v hv]
theorem wordsL_lt (L n : Nat) : ∀ w ∈ wordsL L n, Lt L w := by
  induction n with
  | zero => simp [wordsL, Lt]
  | succ n ih =>
    intro w hw
    simp only [wordsL, List.mem_flatMap, List.mem_map, List.mem_range] at hw
    obtain ⟨v, hv, l, hl, rfl⟩ := hw
    intro x hx
    rcases List.mem_append.mp hx with h | h
    · exact ih v hv x h
    · rw [List.mem_singleton.mp h]; omega
theorem flen {α β : Type} (f : α → List β) (k : Nat) : ∀ xs : List α, (∀ x ∈ xs, (f x).length = k) → (xs.flatMap f).length = xs.length * k
  | [], _ => by simp
  | x :: xs, h => by
    rw [List.flatMap_cons, List.length_append, h x List.mem_cons_self, flen f k xs fun y hy => h y (List.mem_cons_of_mem _ hy), List.length_cons, Nat.add_mul, Nat.one_mul, Nat.add_comm]
theorem wordsL_length (L n : Nat) : (wordsL L n).length = L ^ n := by
  induction n with
  | zero => rfl
  | succ n ih => rw [wordsL, flen _ L _ (by simp), ih, Nat.pow_succ]
theorem pow3 {L n : Nat} (hL : L ≤ 3) (hn : n ≤ 9) : L ^ n ≤ 19683 := by
  have h1 : L ^ n ≤ 3 ^ n := Nat.pow_le_pow_left hL n
  have h2 : 3 ^ n ≤ 3 ^ 9 := Nat.pow_le_pow_right (by decide) hn
  exact Nat.le_trans h1 (Nat.le_trans h2 (by decide))
theorem words_ok {L n : Nat} (hL : L ≤ 3) (hn : n ≤ 9) : m__law_words [.int L, .int n] = .ok (.lst ((wordsL L n).map dI)) := by
  unfold m__law_words b__law_words
  have inner : ∀ (m : Nat) (x2 x3 : D) (s : DL.Slot), m ≤ 9 → L ^ (m + 1) ≤ 19683 → ∃ s', forD (gN 5) (sDrop (eMut 4 extF (aCons (eLC [6] (M.bind (aCons (rd 0) aNil) fun ds => lft (rng1F ds)) (gN 6) (M.pure true) (e2 addF (rd 5) (eN tupF (aCons (rd 6) aNil)))) aNil))) ((wordsL L m).map dI) [Slot.val (.int L), .val (.int n), .val x2, .val x3, .own [], s, .no] = .nx [Slot.val (.int L), .val (.int n), .val x2, .val x3, .own ((wordsL L (m + 1)).map dI), s', .no] := by
    intro m x2 x3 s hm9 hp
    have hlen := wordsL_length L m
    obtain ⟨s', e⟩ := forD_frs (g := gN 5) (body := sDrop (eMut 4 extF (aCons (eLC [6] (M.bind (aCons (rd 0) aNil) fun ds => lft (rng1F ds)) (gN 6) (M.pure true) (e2 addF (rd 5) (eN tupF (aCons (rd 6) aNil)))) aNil))) dI
      (fun (s : DL.Slot) k => [Slot.val (.int L), .val (.int n), .val x2, .val x3, .own ((((wordsL L m).take k).flatMap fun w => (List.range L).map fun (l : Nat) => w ++ [(l : Int)]).map dI), s, .no]) (wordsL L m) s (fun i x hx s => by
        have hm : x.length ≤ 9 := by
          rw [wordsL_len L m x (List.mem_of_getElem? hx)]
          exact hm9
        have hi : i < L ^ m := by
          rw [← hlen]
          exact (List.getElem?_eq_some_iff.mp hx).1
        have r1 : smallI (L : Int) = true := smallI_nat (by omega)
        have hl := LC_map (vs := [6]) (mi := M.bind (aCons (rd 0) aNil) fun ds => lft (rng1F ds)) (g := gN 6) (e := e2 addF (rd 5) (eN tupF (aCons (rd 6) aNil))) (a := [Slot.val (.int L), .val (.int n), .val x2, .val x3, .own ((((wordsL L m).take i).flatMap fun w => (List.range L).map fun (l : Nat) => w ++ [(l : Int)]).map dI), .val (dI x), .no]) (List.range L) (fun (i : Nat) => D.int i) (fun (l : Nat) => dI (x ++ [(l : Int)])) (by simp [r1, rangeL_0]) (by simp; omega) rfl (fun i hi => by
          refine ⟨_, rfl, ?_, rfl⟩
          simp [wipeA, dI, show x.length ≤ 99999 by omega])
        have hq : (((wordsL L m).take i).flatMap fun w => (List.range L).map fun (l : Nat) => w ++ [(l : Int)]).length + L ≤ 100000 := by
          rw [flen _ L _ (by simp), List.length_take, hlen, Nat.min_eq_left (by omega), show i * L + L = (i + 1) * L from (Nat.succ_mul i L).symm]
          have : (i + 1) * L ≤ L ^ m * L := Nat.mul_le_mul_right _ hi
          rw [Nat.pow_succ] at hp
          omega
        refine ⟨.val (dI x), _, rfl, ?_⟩
        simp only [ap_sDrop, ap_eMut, List.set_cons_succ, List.set_cons_zero, List.getElem?_cons_zero, List.getElem?_cons_succ, mO_own, ap_aCons, hl, bnd_ok, ap_aNil, mS_own, F_ext]
        rw [if_pos (by simpa using hq)]
        simp [List.take_add_one, hx])
    refine ⟨s', ?_⟩
    simp only [List.take_zero, List.flatMap_nil, List.map_nil] at e
    rw [e, List.take_length]
    rfl
  obtain ⟨⟨s4, s5⟩, e⟩ := forD_rng (g := gN 3) (body := (sSeq (sOwn Slot.own (M.bind aNil fun xs => lft (ownF xs)) 4)
  (sSeq (sFor (mIt (rd 2)) (gN 5) (sDrop (eMut 4 extF (aCons (eLC [6] (M.bind (aCons (rd 0) aNil) fun ds => lft (rng1F ds)) (gN 6) (M.pure true) (e2 addF (rd 5) (eN tupF (aCons (rd 6) aNil)))) aNil))))
  (sAsg (rd 4) (gN 2))))) (fun (s : (DL.Slot × DL.Slot) × DL.Slot) k => [Slot.val (.int L), .val (.int n), .val (.lst ((wordsL L k).map dI)), s.1.1, s.1.2, s.2, .no]) n ((.no, .no), .no) (fun i hi s => by
    obtain ⟨s', e⟩ := inner i (.lst ((wordsL L i).map dI)) (.int i) s.2 (by omega) (pow3 hL (by omega))
    refine ⟨((.val (.int i), .val (.lst ((wordsL L (i + 1)).map dI))), s'), _, rfl, ?_⟩
    simp [e])
  have r1 : smallI (n : Int) = true := smallI_nat (by omega)
  have r0 : wordsL L 0 = [[]] := rfl
  simp only [r0] at e
  simp [r1]
  simp [dI] at e
  rw [e]
  simp
end DL.NA
end
section
set_option Elab.async false
set_option linter.all false
set_option maxRecDepth 100000
set_option maxHeartbeats 400000
namespace DL.NA
open PySem DL
open L2 (atI ixN)
section
variable {γ : Type} (xs : List γ) (f : γ → Int)
theorem mapI : xs.map (fun x => D.int (f x)) = (xs.map f).map D.int := by rw [List.map_map]; rfl
@[simp] theorem sumF_map : sumF [.lst (xs.map fun x => D.int (f x))] = some (.int (xs.map f).sum) := by rw [mapI, sumF_ints]
@[simp] theorem sumF_mapc : sumF [.lst (xs.map (D.int ∘ f))] = some (.int (xs.map f).sum) := sumF_map xs f
theorem minF_map (h : xs ≠ []) : minF [.lst (xs.map fun x => D.int (f x))] = some (.int (minL (xs.map f))) := by rw [mapI, minF_ints (by simpa using h)]
theorem maxF_map (h : xs ≠ []) : maxF [.lst (xs.map fun x => D.int (f x))] = some (.int (maxL (xs.map f))) := by rw [mapI, maxF_ints (by simpa using h)]
theorem minF_mapc (h : xs ≠ []) : minF [.lst (xs.map (D.int ∘ f))] = some (.int (minL (xs.map f))) := minF_map xs f h
theorem maxF_mapc (h : xs ≠ []) : maxF [.lst (xs.map (D.int ∘ f))] = some (.int (maxL (xs.map f))) := maxF_map xs f h
end
/-- the letter at a place -/
def gd (w : List Int) (k : Nat) : Int := w[k]?.getD 0
theorem gd_at {w : List Int} {k : Nat} (h : k < w.length) : atI (w.map D.int) (k : Int) = some (.int (gd w k)) := by
  rw [atI_nat, gd, List.getElem?_map, List.getElem?_eq_getElem h]
  rfl
/-- how far two words are apart -/
def ham (u w : List Int) : Int := ((u.zip w).map fun p => if p.1 = p.2 then (0 : Int) else 1).sum
theorem apart_ok {u w : List Int} (h : u.length ≤ 1000) : m__law_apart [dI u, dI w] = .ok (.int (ham u w)) := by
  unfold m__law_apart b__law_apart
  have hl := LC_map (vs := [2, 3]) (mi := M.bind (aCons (rd 0) (aCons (rd 1) aNil)) fun ds => lft (zipF ds)) (g := gT (gConss (gN 2) (gConss (gN 3) gNils)) 2) (e := eN intF (aCons (e2 neF (rd 2) (rd 3)) aNil)) (a := [Slot.val (dI u), .val (dI w), .no, .no]) (u.zip w) (fun p => D.tup [.int p.1, .int p.2]) (fun p => D.int (if p.1 = p.2 then (0 : Int) else 1)) (by simp [dI, zipL_map]) (by simp; omega) rfl (fun p hp => by
    refine ⟨_, rfl, ?_, rfl⟩
    by_cases h : p.1 = p.2 <;> simp [wipeA, h])
  rw [mkF2]
  simp [hl, ham]
/-- how many words have another letter at a place -/
def cost (ws : List (List Int)) (k : Nat) (l : Int) : Nat := (ws.filter fun w => !decide (gd w k = l)).length
def row (L : Nat) (ws : List (List Int)) (k : Nat) : List Int := (List.range L).map fun (l : Nat) => (cost ws k l : Int)
theorem row_ne {L : Nat} (h : 1 ≤ L) (ws : List (List Int)) (k : Nat) : row L ws k ≠ [] := by
  intro e
  have := congrArg List.length e
  simp [row] at this
  omega
theorem costs_ok {L n k : Nat} {ws : List (List Int)} (h : Ev L n ws) (hk : k < n) : m_costs_at [dB L ws, .int k] = .ok (.lst ((row L ws k).map D.int)) := by
  unfold m_costs_at b_costs_at
  have h1 := h.l2
  have h2 := h.w2
  have hl : ∀ (l : Nat), (eLC [2] (mIt (e2 ixF (rd 0) (eC (.int 1)))) (gN 2) (mB (e2 neF (e2 ixF (rd 2) (rd 1)) (rd 3))) (rd 2)) [Slot.val (dB L ws), .val (.int k), .no, .val (.int l)] = .ok (.lst ((ws.filter fun w => !decide (gd w k = l)).map dI)) [Slot.val (dB L ws), .val (.int k), .no, .val (.int l)] := fun l =>
    LC_filter (vs := [2]) ws dI dI (fun w => !decide (gd w k = l)) (by simp [dB]) (by simp; omega) rfl (fun w hw => by
      refine ⟨_, rfl, ?_, fun _ => ?_, rfl⟩
      · simp [wipeA, dI, gd_at (w := w) (k := k) (by rw [h.len w hw]; exact hk)]
      · simp [wipeA])
  have hr : smallI (L : Int) = true := smallI_nat (by omega)
  have hs := LC_map (vs := [3]) (mi := M.bind (aCons (e2 ixF (rd 0) (eC (.int 0))) aNil) fun ds => lft (rng1F ds)) (g := gN 3) (e := eN lenF (aCons (eLC [2] (mIt (e2 ixF (rd 0) (eC (.int 1)))) (gN 2) (mB (e2 neF (e2 ixF (rd 2) (rd 1)) (rd 3))) (rd 2)) aNil)) (a := [Slot.val (dB L ws), .val (.int k), .no, .no]) (List.range L) (fun (l : Nat) => D.int l) (fun (l : Nat) => D.int (cost ws k l)) (by simp [dB, hr, rangeL_0]) (by simp; omega) rfl (fun l _ => by
    refine ⟨_, rfl, ?_, rfl⟩
    have := hl l
    simp [wipeA, dB] at this ⊢
    simp [this, cost])
  rw [mkF2]
  simp [hs, row, Function.comp_def]
/-- first index -/
def fidx (x : Int) (xs : List Int) : Nat := xs.findIdx fun y => decide (y = x)
theorem idxOf_ints (x : Int) : ∀ xs : List Int, x ∈ xs → idxOf (.int x) (xs.map D.int) = some (fidx x xs)
  | [], h => by cases h
  | y :: ys, h => by
    unfold idxOf fidx
    rw [List.map_cons, List.findIdx_cons]
    by_cases e : y = x
    · simp [e]
    · have : x ∈ ys := by rcases List.mem_cons.mp h with h | h; exact absurd h.symm e; exact h
      have := idxOf_ints x ys this
      simp only [List.map_cons, eqd_int, e, decide_false, Bool.false_eq_true, if_false, cond_false]
      rw [this]
      rfl
theorem indexF_ints {x : Int} {xs : List Int} (h : x ∈ xs) : indexF (.lst (xs.map D.int)) [.int x] = some (.int (fidx x xs)) := by
  unfold indexF
  simp [idxOf_ints x xs h]
theorem countF_ints {x : Int} {xs : List Int} : countF (.lst (xs.map D.int)) [.int x] = some (.int (xs.count x)) := by
  show (asIs (xs.map D.int)).map _ = _
  rw [asIs_map]
  rfl
@[simp] theorem tyM_l (xs : List D) : tyM "list" (.lst xs) = true := by rfl
theorem minL_mem : ∀ {l : List Int}, l ≠ [] → minL l ∈ l
  | [x], _ => List.mem_cons_self
  | x :: y :: r, _ => by
    have := minL_mem (l := y :: r) (by simp)
    show min x (minL (y :: r)) ∈ _
    by_cases h : x ≤ minL (y :: r)
    · rw [Int.min_eq_left h]; exact List.mem_cons_self
    · rw [Int.min_eq_right (by omega)]; exact List.mem_cons_of_mem _ this
def lowS (L : Nat) (ws : List (List Int)) (n : Nat) : Int := ((List.range n).map fun k => minL (row L ws k)).sum
def lowW (L : Nat) (ws : List (List Int)) (n : Nat) : List Int := (List.range n).map fun k => (fidx (minL (row L ws k)) (row L ws k) : Int)
def lowC (L : Nat) (ws : List (List Int)) : Nat → Int
  | 0 => 1
  | n + 1 => lowC L ws n * ((row L ws n).count (minL (row L ws n)) : Int)
def dL (r : List Int) : D := .lst (r.map D.int)
theorem least_sum_ok {L n : Nat} {ws : List (List Int)} (h : Ev L n ws) : m_least_sum [dB L ws] = .ok (.tup [.int (lowS L ws n), dI (lowW L ws n)]) := by
  unfold m_least_sum b_least_sum
  have h1 := h.l2
  have h6 := h.n6
  have hn := need_even_ok h
  have hlen := length_of_ok h
  have hr : smallI (n : Int) = true := smallI_nat (by omega)
  have hs := LC_map (vs := [2]) (mi := M.bind (aCons (eCall m_length_of (aCons (rd 0) aNil)) aNil) fun ds => lft (rng1F ds)) (g := gN 2) (e := eCall m_costs_at (aCons (rd 0) (aCons (rd 2) aNil))) (a := [Slot.val (dB L ws), .no, .no, .no]) (List.range n) (fun (l : Nat) => D.int l) (fun k => dL (row L ws k)) (by simp [hlen, hr, rangeL_0]) (by simp; omega) rfl (fun k hk => by
    have hk := List.mem_range.mp hk
    refine ⟨_, rfl, ?_, rfl⟩
    simp [wipeA, costs_ok h hk, dL])
  have ne := row_ne (L := L) (by have := h.l1; omega) ws
  have hm := LC_map (vs := [3]) (mi := mIt (rd 1)) (g := gN 3) (e := eN minF (aCons (rd 3) aNil)) (a := [Slot.val (dB L ws), .val (.lst ((List.range n).map fun k => dL (row L ws k))), .no, .no]) (List.range n) (fun k => dL (row L ws k)) (fun k => D.int (minL (row L ws k))) (by simp) (by simp; omega) rfl (fun k hk => by
    refine ⟨_, rfl, ?_, rfl⟩
    simp [wipeA, dL, minF_ints (ne k)])
  have hx := LC_map (vs := [3]) (mi := mIt (rd 1)) (g := gN 3) (e := eM "list" indexF (rd 3) (aCons (eN minF (aCons (rd 3) aNil)) aNil)) (a := [Slot.val (dB L ws), .val (.lst ((List.range n).map fun k => dL (row L ws k))), .no, .no]) (List.range n) (fun k => dL (row L ws k)) (fun k => D.int (fidx (minL (row L ws k)) (row L ws k))) (by simp) (by simp; omega) rfl (fun k hk => by
    refine ⟨_, rfl, ?_, rfl⟩
    simp [wipeA, dL, minF_ints (ne k), indexF_ints (minL_mem (ne k))])
  simp only [mkF1, Nat.reduceSub, List.reduceReplicate, List.replicate]
  simp only [ap_sSeq, ap_sDrop, ap_eCall, ap_aCons, ap_rd, List.getElem?_cons_zero, rdS_val, bnd_ok, ap_aNil, hn, at_ok, sb_ok, sq_nx, ap_sAsg, hs, ap_gN, gS_some, List.set_cons_succ, List.set_cons_zero, ap_sRet, ap_eN, hm, hx, sumF_map, ap_lftS]
  simp [lowS, lowW, dI, List.map_map, Function.comp_def]
theorem count_ok {L n : Nat} {ws : List (List Int)} (h : Ev L n ws) : m_count_least_sum [dB L ws] = .ok (.int (lowC L ws n)) := by
  unfold m_count_least_sum b_count_least_sum
  have h1 := h.l2
  have h6 := h.n6
  have hn := need_even_ok h
  have hlen := length_of_ok h
  have hr : smallI (n : Int) = true := smallI_nat (by omega)
  have ne := row_ne (L := L) (by have := h.l1; omega) ws
  obtain ⟨s, e⟩ := forD_rng (g := gN 2) (body := (sSeq (sAsg (eCall m_costs_at (aCons (rd 0) (aCons (rd 2) aNil))) (gN 3))
  (sAsg (e2 mulI (rd 1) (eM "list" countF (rd 3) (aCons (eN minF (aCons (rd 3) aNil)) aNil))) (gN 1)))) (fun (s : DL.Slot × DL.Slot) k => [Slot.val (dB L ws), .val (.int (lowC L ws k)), s.1, s.2]) n (.no, .no) (fun k hk s => by
    refine ⟨(.val (.int k), .val (dL (row L ws k))), _, rfl, ?_⟩
    have hc : ((row L ws k).count (minL (row L ws k)) : Int) ≤ 3 := by
      have : (row L ws k).count (minL (row L ws k)) ≤ (row L ws k).length := List.count_le_length
      simp [row] at this ⊢
      omega
    have r1 : cMul (lowC L ws k) ((row L ws k).count (minL (row L ws k)) : Int) = true := cMul_r _ _ (by omega) (by omega)
    simp [costs_ok h hk, dL, minF_ints (ne k), countF_ints, r1, lowC])
  simp [hn, hlen, hr]
  simp [lowC] at e
  rw [e]
  simp
end DL.NA
end
section
set_option Elab.async false
set_option linter.all false
set_option maxRecDepth 100000
set_option maxHeartbeats 400000
namespace DL
open PySem
open L2 (atI ixN)
section
variable (a : AS) (i : Nat)
/-! try -/
noncomputable def tryS (ks : List Nat) (h : HS) : RS → RS
  | .exc c a' => if c ∈ ks then sHs h c a' else .bad
  | r => r
@[simp] theorem ap_sTry (ks : List Nat) (b : MS) (h : HS) : sTry ks b h a = tryS ks h (b a) := by
  unfold sTry tryS
  cases b a <;> rfl
@[simp] theorem tryS_exc (ks : List Nat) (h : HS) (c : Nat) : tryS ks h (.exc c a) = if c ∈ ks then sHs h c a else .bad := (rfl)
@[simp] theorem tryS_ret (ks : List Nat) (h : HS) (d : D) : tryS ks h (.ret d a) = .ret d a := (rfl)
@[simp] theorem tryS_nx (ks : List Nat) (h : HS) : tryS ks h (.nx a) = .nx a := (rfl)
@[simp] theorem sHs_nil (c : Nat) : sHs [] c a = .exc c a := (rfl)
@[simp] theorem sHs_cons (T i : Nat) (f : Nat → Addr → MS) (r : HS) (c : Nat) : sHs ((T, i, f) :: r) c a = if subE c T = true then uni i fun e => f c e (a.set i (.val (.ref e))) else sHs r c a := (rfl)
theorem uni_ret {i : Nat} {d : D} {g : Addr → AS} {a' : AS} (h : ∀ e, (g e).set i .no = a') : uni i (fun e => RS.ret d (g e)) = .ret d a' := uni_of fun e => congrArg (RS.ret d) (h e)
@[simp] theorem uni_ret2 (d : D) (s0 s1 : DL.Slot) : uni 2 (fun e => RS.ret d [s0, s1, .val (.ref e)]) = .ret d [s0, s1, .no] := uni_ret fun _ => rfl
@[simp] theorem uni_ret3 (d : D) (s0 s1 s2 : DL.Slot) : uni 3 (fun e => RS.ret d [s0, s1, s2, .val (.ref e)]) = .ret d [s0, s1, s2, .no] := uni_ret fun _ => rfl
@[simp] theorem uni_ret34 (d : D) (s0 s1 s2 s4 : DL.Slot) : uni 3 (fun e => RS.ret d [s0, s1, s2, .val (.ref e), s4]) = .ret d [s0, s1, s2, .no, s4] := uni_ret fun _ => rfl
def isS (b : Bool) (e : Addr) (a : AS) : Option DL.Slot → R D
  | some (.val (.ref e')) => if e' = e then .ok (.bl b) a else .bad
  | _ => .bad
@[simp] theorem isS_ref (b : Bool) (e : Addr) : isS b e a (some (.val (.ref e))) = .ok (.bl b) a := by
  show (if e = e then _ else _) = _
  rw [if_pos rfl]
@[simp] theorem ap_isE (b : Bool) (e : Addr) : isE i e b a = isS b e a a[i]? := by
  unfold isE isS
  cases a[i]? with
  | none => rfl
  | some s =>
    cases s with
    | val d => cases d <;> rfl
    | _ => rfl
@[simp] theorem subE_un (c T : Nat) : subE c T = (T == 0 || T == 100 || c == T) := (rfl)
def callS (S : FT) (m : M (List D)) (a : AS) : Option DL.Slot → R D
  | some (.val (.memo j _)) => (match lkF S j with
      | some F => eCall F m a
      | none => .bad)
  | _ => .bad
@[simp] theorem ap_eCallL (S : FT) (m : M (List D)) : eCallL i S m a = callS S m a a[i]? := by
  unfold eCallL callS
  cases a[i]? with
  | none => rfl
  | some s =>
    cases s with
    | val d => cases d <;> rfl
    | _ => rfl
@[simp] theorem callS_memo (S : FT) (m : M (List D)) (j : Nat) (d : D) : callS S m a (some (.val (.memo j d))) = match lkF S j with
      | some F => eCall F m a
      | none => .bad := (rfl)
@[simp] theorem lkF_cons (j i : Nat) (F : Fn) (S : FT) : lkF ((j, F) :: S) i = if i = j then some F else lkF S i := (rfl)
@[simp] theorem ap_eCut (m : M D) (l h : M (Option Int)) : eCut m l h a = (m a).bnd fun d a1 => (l a1).bnd fun lo a2 => (h a2).bnd fun hi a3 => lft (cutF d lo hi) a3 := by
  refine (ap_bind _ _ _).trans (congrArg _ (funext fun d => funext fun a1 => (ap_bind _ _ _).trans (congrArg _ (funext fun lo => funext fun a2 => ap_bind _ _ _))))
end
@[simp] theorem F_mulS (x : Str) (n : Int) : mulSF (.str x) (.int n) = if n = 0 then some (.str Str.empty) else if n = 1 then some (.str x) else none := (rfl)
@[simp] theorem F_enAL (xs : List D) : enA [.lst xs] = some (enumL 0 xs) := (rfl)
@[simp] theorem F_enAT (xs : List D) : enA [.tup xs] = some (enumL 0 xs) := (rfl)
@[simp] theorem F_revL (xs : List D) : revF (.lst xs) = some (.lst xs.reverse) := (rfl)
@[simp] theorem F_revT (xs : List D) : revF (.tup xs) = some (.tup xs.reverse) := (rfl)
@[simp] theorem F_lr (j : Int) : lrF (.int j) = if (smallI j && sz j.toNat) = true then some (.lst (rangeL 0 j.toNat)) else none := (rfl)
@[simp] theorem F_min3 (i j k : Int) : min3F [.int i, .int j, .int k] = some (.int (min (min i j) k)) := (rfl)
@[simp] theorem F_cutT (xs : List D) (lo hi : Option Int) : cutF (.tup xs) lo hi = some (.tup (cutD xs lo hi)) := (rfl)
@[simp] theorem F_cutL (xs : List D) (lo hi : Option Int) : cutF (.lst xs) lo hi = some (.lst (cutD xs lo hi)) := (rfl)
@[simp] theorem asI_int (i : Int) : asI (.int i) = some i := (rfl)
@[simp] theorem F_listT (xs : List D) : listF [.tup xs] = some (.lst xs) := (rfl)
@[simp] theorem F_listL (xs : List D) : listF [.lst xs] = some (.lst xs) := (rfl)
@[simp] theorem lvl_str (n : Nat) (x : Str) : lvl n (.str x) = PyData.strOk x := by cases n <;> rfl
@[simp] theorem eqd_str (x y : Str) : eqd (.str x) (.str y) = (x == y) := by
  show PyData.eqv (.str x) (.str y) = _
  unfold PyData.eqv
  rfl
@[simp] theorem eqd_ts (xs : List D) (y : Str) : eqd (.tup xs) (.str y) = false := by
  show PyData.eqv (toP (.tup xs)) (.str y) = _
  unfold toP PyData.eqv
  rfl
@[simp] theorem eqd_st (xs : List D) (y : Str) : eqd (.str y) (.tup xs) = false := by
  show PyData.eqv (.str y) (toP (.tup xs)) = _
  unfold toP PyData.eqv
  rfl
theorem eqds_refl : ∀ xs : List D, (∀ d ∈ xs, eqd d d = true) → eqds xs xs = true
  | [], _ => rfl
  | x :: xs, h => by rw [eqds_cons, h x List.mem_cons_self, eqds_refl xs fun d hd => h d (List.mem_cons_of_mem _ hd)]; rfl
end DL
end
section
set_option Elab.async false
set_option linter.all false
set_option maxRecDepth 100000
set_option maxHeartbeats 400000
namespace DL.NA
open PySem DL
open L2 (atI ixN)
theorem letters4 {m : Int} (h : 0 ≤ m ∧ m < 4) : ∃ L : Int, atI [D.int 2, .int 3, .int 2, .int 1] m = some (.int L) ∧ 1 ≤ L ∧ L ≤ 3 := by
  obtain ⟨i, rfl, h2⟩ := nat_of h
  rw [atI_nat]
  match i, h2 with
  | 0, _ => exact ⟨_, rfl, by decide⟩
  | 1, _ => exact ⟨_, rfl, by decide⟩
  | 2, _ => exact ⟨_, rfl, by decide⟩
  | 3, _ => exact ⟨_, rfl, by decide⟩
theorem any_ok (ns : List Int) {p : Int} {wh most : Nat} (hp : 0 ≤ p) (h1 : 1 ≤ wh) (h5 : wh ≤ 5) (h6 : most ≤ 6) : ∃ L ws, m__law_any [.scr ns, .int p, .int (wh : Int), .int (most : Int)] = .ok (dB L ws) ∧ Bk L ws ∧ ws.length ≤ wh ∧ ∀ w ∈ ws, w.length ≤ most := by
  obtain ⟨a1, a2⟩ := mixed_ok ns (k := p) (many := 4) hp (by decide)
  obtain ⟨b1, b2⟩ := mixed_ok ns (k := p + 1) (many := (wh : Int)) (by omega) (by omega)
  obtain ⟨L, g1, g2, g3⟩ := letters4 a2
  obtain ⟨w, hw, w5⟩ := nat_of b2
  rw [hw] at b1
  have hsz : ∀ i : Nat, ∃ s : Nat, s ≤ most ∧ m__law_mixed [.scr ns, .int (p + 2 + 7 * (i : Int)), .int ((most : Int) + 1)] = .ok (.int (s : Int)) := fun i => by
    obtain ⟨c1, c2⟩ := mixed_ok ns (k := p + 2 + 7 * (i : Int)) (many := (most : Int) + 1) (by omega) (by omega)
    obtain ⟨s, hs, s7⟩ := nat_of c2
    rw [hs] at c1
    exact ⟨s, by omega, c1⟩
  let size : Nat → Nat := fun i => Classical.choose (hsz i)
  have hs1 : ∀ i, size i ≤ most := fun i => (Classical.choose_spec (hsz i)).1
  have hs2 : ∀ i : Nat, m__law_mixed [.scr ns, .int (p + 2 + 7 * (i : Int)), .int ((most : Int) + 1)] = .ok (.int (size i : Int)) := fun i => (Classical.choose_spec (hsz i)).2
  generalize size = size at hs1 hs2
  let word : Nat → List Int := fun i => wrd ns (p + 3 + 7 * (i : Int)) L (size i)
  have hwd : ∀ i : Nat, m__law_word [.scr ns, .int (p + 3 + 7 * (i : Int)), .int L, .int (size i : Int)] = .ok (dI (word i)) := fun i => word_ok ns (by omega) (by omega) (by have := hs1 i; omega)
  obtain ⟨s, e⟩ := forD_rng (g := gN 6) (body := (sDrop (eMut 5 appF (aCons (eCall m__law_word (aCons (rd 0) (aCons (e2 addF (e2 addF (rd 1) (eC (.int 3))) (e2 mulI (eC (.int 7)) (rd 6))) (aCons (rd 4) (aCons (eCall m__law_mixed (aCons (rd 0) (aCons (e2 addF (e2 addF (rd 1) (eC (.int 2))) (e2 mulI (eC (.int 7)) (rd 6))) (aCons (e2 addF (rd 3) (eC (.int 1))) aNil)))) aNil))))) aNil))))
    (fun (s : DL.Slot) k => [Slot.val (.scr ns), .val (.int p), .val (.int (wh : Int)), .val (.int (most : Int)), .val (.int L), .own ((List.range k).map fun i => dI (word i)), s]) (1 + w) .no (fun i hi s => by
    refine ⟨.val (.int i), _, rfl, ?_⟩
    have r3 : cMul 7 (i : Int) = true := cMul_l _ _ (by decide) (by decide)
    simp [r3, hs2, hwd, show i ≤ 99999 by omega, List.range_succ])
  refine ⟨L, (List.range (1 + w)).map word, ?_, ⟨g2, g3, by simp, by simp; omega, fun v hv => ?_, fun v hv => ?_⟩, by simp; omega, fun v hv => ?_⟩
  · unfold m__law_any b__law_any
    have r1 : smallI (1 + (w : Int)) = true := smallI_of (by omega) (by omega)
    have r2 : (1 + (w : Int)).toNat = 1 + w := by omega
    simp [a1, b1, g1, r1, r2]
    simp at e
    rw [e]
    simp [dB, Function.comp_def]
  · obtain ⟨i, _, rfl⟩ := List.mem_map.mp hv
    have := hs1 i
    simp [word]
    omega
  · obtain ⟨i, _, rfl⟩ := List.mem_map.mp hv
    exact wrd_lt ns _ (by omega) (by omega)
  · obtain ⟨i, _, rfl⟩ := List.mem_map.mp hv
    have := hs1 i
    simp [word]
    omega
/-! things that are no words -/
@[simp] theorem kit_non_tup : L2.kitB (tyD .non) "tuple" = some false := by rfl
@[simp] theorem kit_str_tup : L2.kitB (tyD (.str x)) "tuple" = some false := by rfl
@[simp] theorem kit_int_tup : L2.kitB (tyD (.int x)) "tuple" = some false := by rfl
@[simp] theorem kit_bl_int : L2.kitB (tyD (.bl x)) "int" = some true := by rfl
@[simp] theorem kit_bl_bool : L2.kitB (tyD (.bl x)) "bool" = some true := by rfl
@[simp] theorem kit_str_int : L2.kitB (tyD (.str x)) "int" = some false := by rfl
@[simp] theorem kit_non_int : L2.kitB (tyD .non) "int" = some false := by rfl
@[simp] theorem kit_lst_int : L2.kitB (tyD (.lst x)) "int" = some false := by rfl
@[simp] theorem kit_tup_int : L2.kitB (tyD (.tup x)) "int" = some false := by rfl
@[simp] theorem between_bl (x : Bool) (lo hi : D) : m_between [.bl x, lo, hi] = .ok (.bl false) := by
  unfold m_between b_between m_is_whole b_is_whole
  simp
@[simp] theorem between_non (lo hi : D) : m_between [.non, lo, hi] = .ok (.bl false) := by
  unfold m_between b_between m_is_whole b_is_whole
  simp
@[simp] theorem between_str (x : Str) (lo hi : D) : m_between [.str x, lo, hi] = .ok (.bl false) := by
  unfold m_between b_between m_is_whole b_is_whole
  simp
theorem is_word_non (L most : Int) : m_is_word [.non, .int L, .int most] = .ok (.bl false) := by
  unfold m_is_word b_is_word
  simp
theorem is_word_lst (xs : List D) (L most : Int) : m_is_word [.lst xs, .int L, .int most] = .ok (.bl false) := by
  unfold m_is_word b_is_word
  simp
theorem is_word_str (x : Str) (L most : Int) : m_is_word [.str x, .int L, .int most] = .ok (.bl false) := by
  unfold m_is_word b_is_word
  simp
theorem is_word_int (x L most : Int) : m_is_word [.int x, .int L, .int most] = .ok (.bl false) := by
  unfold m_is_word b_is_word
  simp
theorem is_word_long (xs : List D) (L most : Int) (h : most < xs.length) : m_is_word [.tup xs, .int L, .int most] = .ok (.bl false) := by
  unfold m_is_word b_is_word
  simp [h]
theorem is_word_tup (xs : List D) (L most : Int) (p : D → Bool) (h : ¬ most < xs.length) (hz : xs.length ≤ 1000) (hp : ∀ x ∈ xs, m_between [x, .int 0, .int (L - 1)] = .ok (.bl (p x))) : m_is_word [.tup xs, .int L, .int most] = .ok (.bl (xs.all p)) := by
  unfold m_is_word b_is_word
  have hl := LC_map (vs := [3]) (mi := mIt (rd 0)) (g := gN 3) (e := eCall m_between (aCons (rd 3) (aCons (eC (.int 0)) (aCons (e2 subI (rd 1) (eC (.int 1))) aNil)))) (a := [Slot.val (.tup xs), .val (.int L), .val (.int most), .no]) xs id (fun x => D.bl (p x)) (by simp) (by simp; omega) rfl (fun x hx => by
    refine ⟨_, rfl, ?_, rfl⟩
    simp [wipeA, hp x hx])
  rw [mkF3]
  simp [h] at hl ⊢
  rw [hl]
  simp
theorem is_word_one (d : D) (L most : Int) (h : 1 ≤ most) (hb : m_between [d, .int 0, .int (L - 1)] = .ok (.bl false)) : m_is_word [.tup [d], .int L, .int most] = .ok (.bl false) := by
  rw [is_word_tup [d] L most (fun _ => false) (by simp; omega) (by simp) (by simpa using hb)]
  simp
end DL.NA
end
section
set_option Elab.async false
set_option linter.all false
set_option maxRecDepth 100000
set_option maxHeartbeats 400000
namespace DL
open PySem
open L2 (atI ixN)
@[simp] theorem F_inXT (d : D) (xs : List D) : inX d (.tup xs) = if (flatD d && xs.all flatD) = true then some (.bl (memV d xs)) else none := (rfl)
@[simp] theorem F_ninXT (d : D) (xs : List D) : ninX d (.tup xs) = if (flatD d && xs.all flatD) = true then some (.bl (!memV d xs)) else none := (rfl)
@[simp] theorem F_inXL (d : D) (xs : List D) : inX d (.lst xs) = if (lvl 60 d && lvls 59 xs) = true then some (.bl (anyEq d xs)) else none := (rfl)
@[simp] theorem F_ninXL (d : D) (xs : List D) : ninX d (.lst xs) = if (lvl 60 d && lvls 59 xs) = true then some (.bl (!anyEq d xs)) else none := (rfl)
@[simp] theorem memV_nil (d : D) : memV d [] = false := (rfl)
@[simp] theorem memV_cons (d x : D) (xs : List D) : memV d (x :: xs) = (L2.eqV (toV x) (toV d) || memV d xs) := (rfl)
@[simp] theorem toV_str (x : Str) : toV (.str x) = .str x := (rfl)
@[simp] theorem toV_int (x : Int) : toV (.int x) = .int x := (rfl)
@[simp] theorem eqV_str (x y : Str) : L2.eqV (.str x) (.str y) = (x == y) := (rfl)
@[simp] theorem eqV_int (x y : Int) : L2.eqV (.int x) (.int y) = (x == y) := (rfl)
@[simp] theorem flat_str (x : Str) : flatD (.str x) = true := (rfl)
@[simp] theorem flat_int (x : Int) : flatD (.int x) = true := (rfl)
@[simp] theorem cut2 (a b : D) : cutD [a, b] (some 1) none = [b] := (rfl)
@[simp] theorem F_isN (d : D) : isN d .non = some (.bl (nonB d)) := (rfl)
@[simp] theorem F_isNN (d : D) : isNotN d .non = some (.bl (!nonB d)) := (rfl)
@[simp] theorem nonB_non : nonB .non = true := (rfl)
@[simp] theorem nonB_tup (xs : List D) : nonB (.tup xs) = false := (rfl)
@[simp] theorem nonB_dI (xs : List Int) : nonB (dI xs) = false := (rfl)
@[simp] theorem nonB_str (xs : Str) : nonB (.str xs) = false := (rfl)
@[simp] theorem F_repT (xs : List D) (k : Int) : repTF (.tup xs) (.int k) = if (decide (-1000 ≤ k ∧ k ≤ 1000) && decide (xs.length ≤ 1000)) = true then some (.tup (List.replicate k.toNat xs).flatten) else none := (rfl)
@[simp] theorem eqd_tn (xs : List D) : eqd (.tup xs) .non = false := by
  show PyData.eqv (toP (.tup xs)) .none = _
  unfold toP PyData.eqv
  rfl
@[simp] theorem eqd_dIn (xs : List Int) (y : Str) : eqd (dI xs) (.str y) = false := eqd_ts _ _
@[simp] theorem eqd_dIs' (xs : List Int) (y : Str) : eqd (.str y) (dI xs) = false := eqd_st _ _
@[simp] theorem F_len_dI (w : List Int) : lenF [dI w] = some (.int w.length) := by unfold dI; simp
@[simp] theorem F_list_dI (w : List Int) : listF [dI w] = some (.lst (w.map D.int)) := (rfl)
@[simp] theorem F_max2 (i j : Int) : max2F [.int i, .int j] = some (.int (if i < j then j else i)) := (rfl)
@[simp] theorem F_lstO (xs : List D) : lstO [.lst xs] = some xs := (rfl)
@[simp] theorem F_lstOT (xs : List D) : lstO [.tup xs] = some xs := (rfl)
end DL
end
section
set_option Elab.async false
set_option linter.all false
set_option maxRecDepth 100000
set_option maxHeartbeats 400000
namespace DL
open PySem
open L2 (atI ixN)
section
variable (a : AS)
@[simp] theorem ap_eMeth (m : Str) (F : Fn) (mo : M D) (ma : M (List D)) : eMeth m F mo ma a = (mo a).bnd fun x a1 => if methOk m x = true then (ma a1).bnd fun ds a2 => (F (x :: ds)).at a2 else .bad := by
  unfold eMeth
  rw [ap_bind]
  congr 1
  funext x a1
  rw [ap_bind]
  cases h : methOk m x with
  | true =>
    show (R.ok () a1).bnd _ = _
    rw [bnd_ok, ap_bind]
    rfl
  | false => rfl
end
@[simp] theorem F_fld (f : Str) (fs : List (Str × D)) : fldF f (.obj 50 fs) = fs.lookup f := (rfl)
theorem tail_cut (x : D) (xs : List D) : cutD (x :: xs) (some 1) none = xs := by
  unfold cutD HT.sIx
  simp
@[simp] theorem mkF5 (N : Nat) (b : MS) (x y z u v : D) : mkF 5 N b [x, y, z, u, v] = (b (DL.Slot.val x :: DL.Slot.val y :: DL.Slot.val z :: DL.Slot.val u :: DL.Slot.val v :: List.replicate (N - 5) DL.Slot.no)).out := mkF_at _ _ _ _ rfl
end DL
end
section
set_option Elab.async false
set_option linter.all false
set_option maxRecDepth 100000
set_option maxHeartbeats 800000
/-! k23: texts as lists of signs; what read gives -/
namespace DL.K23
open PySem DL DL.NA
open L2 (atI ixN)
def tx (a : List Nat) : D := .str (SX.S a)
def dg (c : Nat) : Int := ((c - 48 : Nat) : Int)
def okc (c : Nat) : Bool := decide (c = 48) || (decide (c = 49) || decide (c = 50))
def lC (c : Nat) : Bool := decide (c = 49) || (decide (c = 50) || decide (c = 51))
theorem okc_cases {c : Nat} (h : okc c = true) : c = 48 ∨ c = 49 ∨ c = 50 := by
  unfold okc at h
  simpa using h
theorem lC_cases {c : Nat} (h : lC c = true) : c = 49 ∨ c = 50 ∨ c = 51 := by
  unfold lC at h
  simpa using h
theorem s0 : Str.ofString "0" = SX.S [48] := by rfl
theorem s1 : Str.ofString "1" = SX.S [49] := by rfl
theorem s2 : Str.ofString "2" = SX.S [50] := by rfl
theorem s3 : Str.ofString "3" = SX.S [51] := by rfl
theorem sSl : Str.ofString "/" = SX.S [47] := by rfl
theorem s012 : Str.ofString "012" = SX.S [48, 49, 50] := by rfl
theorem sE : Str.ofString "" = SX.S [] := by rfl
/-! ### whether numbers and words are a book -/
def wvB (L : Int) (w : List Int) : Bool := decide (w.length ≤ 6) && w.all fun x => decide (0 ≤ x) && decide (x ≤ L - 1)
theorem is_word_v0 {L : Int} (w : List Int) (hw : w.length ≤ 1000) : m_is_word [.tup (w.map D.int), .int L, .int 6] = .ok (.bl (wvB L w)) := by
  unfold wvB
  by_cases h : w.length ≤ 6
  · have e := is_word_tup (w.map D.int) L 6 (fun d => match d with
      | .int x => decide (0 ≤ x) && decide (x ≤ L - 1)
      | _ => false) (by rw [List.length_map]; omega) (by rw [List.length_map]; omega) (fun x hx => by
        obtain ⟨y, _, rfl⟩ := List.mem_map.mp hx
        exact between_ok y 0 (L - 1))
    rw [e, List.all_map]
    simp [h, Function.comp_def]
  · rw [is_word_long (w.map D.int) L 6 (by rw [List.length_map]; omega)]
    simp [h]
theorem is_word_v {L : Int} (w : List Int) (hw : w.length ≤ 1000) : m_is_word [dI w, .int L, .int 6] = .ok (.bl (wvB L w)) := is_word_v0 w hw
def bookV (L : Int) (ws : List (List Int)) : Bool := decide (1 ≤ ws.length) && decide (ws.length ≤ 5) && ws.all (wvB L)
theorem is_book_v {L : Int} (h1 : 1 ≤ L) (h2 : L ≤ 3) {ws : List (List Int)} (hw : ∀ w ∈ ws, w.length ≤ 1000) : m_is_book [dB L ws] = .ok (.bl (bookV L ws)) := by
  unfold bookV
  by_cases h3 : 1 ≤ ws.length
  · by_cases h4 : ws.length ≤ 5
    · unfold m_is_book b_is_book
      have hl := LC_map (vs := [1]) (mi := mIt (e2 ixF (rd 0) (eC (.int 1)))) (g := gN 1) (e := eCall m_is_word (aCons (rd 1) (aCons (e2 ixF (rd 0) (eC (.int 0))) (aCons (eC (.int 6)) aNil)))) (a := [Slot.val (dB L ws), .no]) ws dI (fun w => D.bl (wvB L w)) (by simp [dB]) (by simp; omega) rfl (fun w hw' => by
        refine ⟨_, rfl, ?_, rfl⟩
        simp [wipeA, dB, is_word_v (L := L) w (hw w hw')])
      have h5 : (1 : Int) ≤ ws.length := by omega
      have h6 : (ws.length : Int) ≤ 5 := by omega
      simp only [mkF1]
      simp [dB, h1, h2, h5, h6] at hl ⊢
      rw [hl]
      simp [h3, h4]
    · unfold m_is_book b_is_book
      have h5 : ¬ (ws.length : Int) ≤ 5 := by omega
      simp only [mkF1]
      simp [dB, h1, h2, h5, h4]
  · unfold m_is_book b_is_book
    have h5 : ¬ (1 : Int) ≤ ws.length := by omega
    simp only [mkF1]
    simp [dB, h1, h2, h5, h3]
theorem checked_v {L : Int} (h1 : 1 ≤ L) (h2 : L ≤ 3) {ws : List (List Int)} (hw : ∀ w ∈ ws, w.length ≤ 1000) : m_checked [dB L ws] = if bookV L ws = true then .ok (dB L ws) else .exc 1 := by
  unfold m_checked b_checked
  have e := is_book_v h1 h2 hw
  cases h : bookV L ws with
  | true => rw [h] at e; simp [e]
  | false => rw [h] at e; simp [e]

/-! ### comprehensions whose element raises -/
theorem cmpX_ok {γ : Type} (vs : List Nat) (g : Tg) (e : M D) (inj f : γ → D) (a0 : AS) : ∀ (xs : List γ) (a : AS), wipeA a vs = wipeA a0 vs →
    (∀ x ∈ xs, ∃ a1, g (inj x) (wipeA a0 vs) = some a1 ∧ e a1 = .ok (f x) a1 ∧ wipeA a1 vs = wipeA a0 vs) →
    ∃ a', cmpX vs g e (xs.map inj) a = .ok (xs.map f) a' ∧ wipeA a' vs = wipeA a0 vs
  | [], a, ha, _ => ⟨a, rfl, ha⟩
  | x :: xs, a, ha, h => by
    obtain ⟨a1, h1, h2, h4⟩ := h x List.mem_cons_self
    obtain ⟨a', h5, h6⟩ := cmpX_ok vs g e inj f a0 xs a1 h4 fun y hy => h y (List.mem_cons_of_mem _ hy)
    refine ⟨a', ?_, h6⟩
    rw [List.map_cons]
    unfold cmpX
    rw [ha, h1]
    simp only [h2, h5]
    rfl
theorem cmpX_exc {γ : Type} (vs : List Nat) (g : Tg) (e : M D) (inj f : γ → D) (p : γ → Bool) (c : Nat) (a0 : AS) : ∀ (xs : List γ) (a : AS), wipeA a vs = wipeA a0 vs →
    (∀ x ∈ xs, ∃ a1, g (inj x) (wipeA a0 vs) = some a1 ∧ (p x = true → e a1 = .ok (f x) a1 ∧ wipeA a1 vs = wipeA a0 vs) ∧ (p x = false → ∃ a2, e a1 = .exc c a2)) → xs.all p = false →
    ∃ a', cmpX vs g e (xs.map inj) a = .exc c a'
  | [], a, ha, _, hp => by simp at hp
  | x :: xs, a, ha, h, hp => by
    obtain ⟨a1, h1, h2, h3⟩ := h x List.mem_cons_self
    rw [List.map_cons]
    unfold cmpX
    rw [ha, h1]
    cases hx : p x with
    | false =>
      obtain ⟨a2, h4⟩ := h3 hx
      simp only [h4]
      exact ⟨_, rfl⟩
    | true =>
      obtain ⟨h4, h5⟩ := h2 hx
      rw [List.all_cons, hx, Bool.true_and] at hp
      obtain ⟨a', h6⟩ := cmpX_exc vs g e inj f p c a0 xs a1 h5 (fun y hy => h y (List.mem_cons_of_mem _ hy)) hp
      simp only [h4, h6]
      exact ⟨_, rfl⟩
theorem LCx_ok {γ : Type} {vs : List Nat} {mi : M (List D)} {g : Tg} {e : M D} {a : AS} (xs : List γ) (inj f : γ → D) (hi : mi a = .ok (xs.map inj) a) (hz : sz xs.length = true) (hr : restA a a vs = a)
    (h : ∀ x ∈ xs, ∃ a1, g (inj x) (wipeA a vs) = some a1 ∧ e a1 = .ok (f x) a1 ∧ wipeA a1 vs = wipeA a vs) : eLCx vs mi g e a = .ok (.lst (xs.map f)) a := by
  obtain ⟨a', h1, h2⟩ := cmpX_ok vs g e inj f a xs a rfl h
  unfold eLCx
  rw [ap_bind, hi, bnd_ok]
  rw [List.length_map, if_pos hz, h1]
  show R.ok (D.lst _) (restA a a' vs) = _
  rw [wipe_back h2, hr]
theorem LCx_exc {γ : Type} {vs : List Nat} {mi : M (List D)} {g : Tg} {e : M D} {a : AS} (xs : List γ) (inj f : γ → D) (p : γ → Bool) (c : Nat) (hi : mi a = .ok (xs.map inj) a) (hz : sz xs.length = true)
    (h : ∀ x ∈ xs, ∃ a1, g (inj x) (wipeA a vs) = some a1 ∧ (p x = true → e a1 = .ok (f x) a1 ∧ wipeA a1 vs = wipeA a vs) ∧ (p x = false → ∃ a2, e a1 = .exc c a2)) (hp : xs.all p = false) : ∃ a', eLCx vs mi g e a = .exc c a' := by
  obtain ⟨a', h1⟩ := cmpX_exc vs g e inj f p c a xs a rfl h hp
  unfold eLCx
  rw [ap_bind, hi, bnd_ok]
  rw [List.length_map, if_pos hz, h1]
  exact ⟨_, rfl⟩

/-! ### signs -/
@[simp] theorem kit_str_str (x : Str) : L2.kitB (tyD (.str x)) "str" = some true := by rfl
@[simp] theorem kit_non_str : L2.kitB (tyD .non) "str" = some false := by rfl
@[simp] theorem kit_int_str (i : Int) : L2.kitB (tyD (.int i)) "str" = some false := by rfl
@[simp] theorem kit_lst_str (xs : List D) : L2.kitB (tyD (.lst xs)) "str" = some false := by rfl
theorem F_split (z y : Str) : splitF (.str z) [.str y] = if (!(y.length == 0) && decide (z.length + 2 ≤ sizeLine)) = true then some (.lst ((Txt.split z y).map D.str)) else none := (rfl)
theorem F_intS (z : Str) : intSF [.str z] = if decide (z.length ≤ 640) = true then (PySem.intText? z).map D.int else none := (rfl)
theorem split_ok {a : List Nat} (h : a.length ≤ 1000) : splitF (tx a) [.str (Str.ofString "/")] = some (.lst ((TL.spl [47] 0 [] a).map tx)) := by
  unfold tx
  rw [sSl, F_split]
  have h1 : (!((SX.S [47]).length == 0) && decide ((SX.S a).length + 2 ≤ sizeLine)) = true := by
    rw [SX.S_len, SX.S_len]
    have : a.length + 2 ≤ sizeLine := by rw [sizeLine_eq]; omega
    simp [this]
  rw [if_pos h1, SX.split_S (by simp) (by decide)]
  rw [List.map_map]
  rfl
theorem int_ok {c : Nat} (h : 48 ≤ c) (h2 : c ≤ 57) : intSF [tx [c]] = some (.int (dg c)) := by
  unfold tx
  rw [F_intS]
  have e : (SX.S [c]).length = 1 := SX.S_len [c]
  rw [if_pos (by rw [e]; decide), SX.int_S (by simp [h, h2]) (by simp) (by simp)]
  simp [NumText.digitsVal, dg]
theorem letter_ok (c : Nat) : m_letter_of [tx [c]] = if okc c = true then .ok (.int (dg c)) else .exc 9 := by
  unfold m_letter_of b_letter_of
  have e : ninSF (tx [c]) (.str (Str.ofString "012")) = some (.bl (!okc c)) := by
    rw [s012]
    show some (D.bl (!decide (c ∈ [48, 49, 50]))) = _
    congr 3
    unfold okc
    simp
  cases h : okc c with
  | false =>
    rw [h] at e
    simp [e]
  | true =>
    rw [h] at e
    have := okc_cases h
    simp [e, int_ok (c := c) (by omega) (by omega)]
theorem mem_tx (p q : List Nat) : L2.eqV (toV (tx q)) (toV (tx p)) = decide (q = p) := by
  show (SX.S q == SX.S p) = _
  exact SX.S_beq_eq
theorem nin123 (p : List Nat) : ninX (tx p) (.tup [.str (Str.ofString "1"), .str (Str.ofString "2"), .str (Str.ofString "3")]) = some (.bl (!(decide (p = [49]) || (decide (p = [50]) || decide (p = [51]))))) := by
  rw [s1, s2, s3]
  show ninX (tx p) (.tup [tx [49], tx [50], tx [51]]) = _
  have f : ∀ q, flatD (tx q) = true := fun q => flat_str _
  rw [F_ninXT]
  simp only [f, List.all_cons, List.all_nil, Bool.and_true, if_true, memV_cons, memV_nil, mem_tx, Bool.or_false, eq_comm]
theorem nin012 (c : Nat) : ninX (tx [c]) (.tup [.str (Str.ofString "0"), .str (Str.ofString "1"), .str (Str.ofString "2")]) = some (.bl (!okc c)) := by
  rw [s0, s1, s2]
  show ninX (tx [c]) (.tup [tx [48], tx [49], tx [50]]) = _
  have f : ∀ q, flatD (tx q) = true := fun q => flat_str _
  rw [F_ninXT]
  unfold okc
  simp only [f, List.all_cons, List.all_nil, Bool.and_true, if_true, memV_cons, memV_nil, mem_tx, Bool.or_false, List.cons.injEq, and_true, eq_comm]
end DL.K23
end
section
set_option Elab.async false
set_option linter.all false
set_option maxRecDepth 100000
set_option maxHeartbeats 800000
/-! k23: what read gives of a text of signs -/
namespace DL.K23
open PySem DL DL.NA
open L2 (atI ixN)
def pcs (a : List Nat) : List (List Nat) := TL.spl [47] 0 [] a
theorem spl_ne : ∀ (acc r : List Nat), TL.spl [47] 0 acc r ≠ []
  | acc, [] => by rw [TL.spl_nil]; simp
  | acc, c :: r => by
    cases h : TL.pre [47] (c :: r) with
    | true => rw [TL.spl_hit h]; simp
    | false => rw [TL.spl_miss h]; exact spl_ne (acc ++ [c]) r
theorem spl_len : ∀ (acc r : List Nat), (TL.spl [47] 0 acc r).length ≤ r.length + 1 ∧ ∀ p ∈ TL.spl [47] 0 acc r, p.length ≤ acc.length + r.length
  | acc, [] => by rw [TL.spl_nil]; simp
  | acc, c :: r => by
    cases h : TL.pre [47] (c :: r) with
    | true =>
      rw [TL.spl_hit h]
      obtain ⟨h1, h2⟩ := spl_len [] r
      refine ⟨by simpa using h1, fun p hp => ?_⟩
      rcases List.mem_cons.mp hp with rfl | hp
      · simp
      · have := h2 p hp
        simp at this ⊢
        omega
    | false =>
      rw [TL.spl_miss h]
      obtain ⟨h1, h2⟩ := spl_len (acc ++ [c]) r
      refine ⟨by simp; omega, fun p hp => ?_⟩
      have := h2 p hp
      simp at this ⊢
      omega
/-- what a text tells: letters, words -/
def dueC (a : List Nat) : Option (Int × List (List Int)) := match pcs a with
  | [c] :: ps => if (lC c && ps.all fun p => p.all okc) = true then some (dg c, ps.map fun p => p.map dg) else none
  | _ => none
/-- .. the book, if it is one -/
def dueD (a : List Nat) : Option D := (dueC a).bind fun b => if bookV b.1 b.2 = true then some (dB b.1 b.2) else none
theorem inner_ok (p : List Nat) (hp : p.length ≤ 1000) {x0 x1 x2 : DL.Slot} (h : p.all okc = true) :
    eN tupleF (aCons (eLCx [3] (mIt (rd 4)) (gN 3) (eCall m_letter_of (aCons (rd 3) aNil))) aNil) [x0, x1, x2, .no, .val (tx p)] = .ok (dI (p.map dg)) [x0, x1, x2, .no, .val (tx p)] := by
  have e := LCx_ok (vs := [3]) (mi := mIt (rd 4)) (g := gN 3) (e := eCall m_letter_of (aCons (rd 3) aNil)) (a := [x0, x1, x2, .no, .val (tx p)]) p (fun c => tx [c]) (fun c => D.int (dg c)) (by
      simp [tx, itF]) (by simp; omega) rfl (fun c hc => by
    refine ⟨_, rfl, ?_, rfl⟩
    have := List.all_eq_true.mp h c hc
    simp [wipeA, letter_ok, this])
  simp [e, dI, Function.comp_def]
theorem inner_exc (p : List Nat) (hp : p.length ≤ 1000) {x0 x1 x2 : DL.Slot} (h : p.all okc = false) :
    ∃ a', eN tupleF (aCons (eLCx [3] (mIt (rd 4)) (gN 3) (eCall m_letter_of (aCons (rd 3) aNil))) aNil) [x0, x1, x2, .no, .val (tx p)] = .exc 9 a' := by
  obtain ⟨a', e⟩ := LCx_exc (vs := [3]) (mi := mIt (rd 4)) (g := gN 3) (e := eCall m_letter_of (aCons (rd 3) aNil)) (a := [x0, x1, x2, .no, .val (tx p)]) p (fun c => tx [c]) (fun c => D.int (dg c)) okc 9 (by
      simp [tx, itF]) (by simp; omega) (fun c hc => by
    refine ⟨_, rfl, fun h => ?_, fun h => ?_⟩
    · refine ⟨?_, rfl⟩
      simp [wipeA, letter_ok, h]
    · simp [wipeA, letter_ok, h]) h
  exact ⟨a', by simp [e]⟩
theorem outer_ok (q : D) (ps : List (List Nat)) (hl : ps.length ≤ 1000) (hp : ∀ p ∈ ps, p.length ≤ 1000) {x0 : DL.Slot} (h : (ps.all fun p => p.all okc) = true) :
    eLCx [4] (mIt (eCut (rd 1) (M.bind (eC (.int 1)) fun d => lft ((asI d).map some)) (M.pure none))) (gN 4) (eN tupleF (aCons (eLCx [3] (mIt (rd 4)) (gN 3) (eCall m_letter_of (aCons (rd 3) aNil))) aNil)) [x0, .val (.lst (q :: ps.map tx)), .no, .no, .no]
      = .ok (.lst (ps.map fun p => dI (p.map dg))) [x0, .val (.lst (q :: ps.map tx)), .no, .no, .no] :=
  LCx_ok (vs := [4]) (g := gN 4) ps tx (fun p => dI (p.map dg)) (by simp [tail_cut]) (by simp; omega) rfl (fun p h1 => by
    refine ⟨_, rfl, ?_, rfl⟩
    exact inner_ok p (hp p h1) (List.all_eq_true.mp h p h1))
theorem outer_exc (q : D) (ps : List (List Nat)) (hl : ps.length ≤ 1000) (hp : ∀ p ∈ ps, p.length ≤ 1000) {x0 : DL.Slot} (h : (ps.all fun p => p.all okc) = false) :
    ∃ a', eLCx [4] (mIt (eCut (rd 1) (M.bind (eC (.int 1)) fun d => lft ((asI d).map some)) (M.pure none))) (gN 4) (eN tupleF (aCons (eLCx [3] (mIt (rd 4)) (gN 3) (eCall m_letter_of (aCons (rd 3) aNil))) aNil)) [x0, .val (.lst (q :: ps.map tx)), .no, .no, .no]
      = .exc 9 a' :=
  LCx_exc (vs := [4]) (g := gN 4) ps tx (fun p => dI (p.map dg)) (fun p => p.all okc) 9 (by simp [tail_cut]) (by simp; omega) (fun p h1 => by
    refine ⟨_, rfl, fun h => ⟨inner_ok p (hp p h1) h, rfl⟩, fun h => inner_exc p (hp p h1) h⟩) h
theorem dg_pos {c : Nat} (h : lC c = true) : 1 ≤ dg c ∧ dg c ≤ 3 := by
  rcases lC_cases h with rfl | rfl | rfl <;> decide
theorem read_ok {a : List Nat} (hl : a.length ≤ 500) : m_read [tx a] = match dueD a with
    | some d => .ok d
    | none => .exc 9 := by
  have hs := split_ok (a := a) (by omega)
  have hk : isiF "str" (rd 0) [Slot.val (tx a), .no, .no, .no, .no] = .ok (.bl true) [Slot.val (tx a), .no, .no, .no, .no] := by simp [tx]
  have ht : tyM "str" (tx a) = true := rfl
  obtain ⟨h1, h2⟩ := spl_len [] a
  have hne := spl_ne [] a
  unfold dueD dueC pcs
  unfold m_read b_read
  cases hp : TL.spl [47] 0 [] a with
  | nil => exact absurd hp hne
  | cons p0 ps =>
    rw [hp] at hs h1 h2
    have n0 := nin123 p0
    have hps : ps.length ≤ 1000 := by simp at h1; omega
    have hpl : ∀ p ∈ ps, p.length ≤ 1000 := fun p hp => by
      have := h2 p (List.mem_cons_of_mem _ hp)
      simp at this
      omega
    simp only [mkF1, Nat.reduceSub, List.reduceReplicate, List.replicate]
    cases hc : (decide (p0 = [49]) || (decide (p0 = [50]) || decide (p0 = [51]))) with
    | false =>
      rw [hc] at n0
      have : ∀ c, p0 = [c] → lC c = false := fun c e => by
        subst e
        unfold lC
        simpa using hc
      have hd : (match p0 :: ps with
        | [c] :: ps => if (lC c && ps.all fun p => p.all okc) = true then some (dg c, ps.map fun p => p.map dg) else none
        | _ => none) = none := by
        match p0, this with
        | [], _ => rfl
        | [c], h => simp [h c rfl]
        | _ :: _ :: _, _ => rfl
      rw [hd]
      simp [-ap_isiF, -F_ninXT, hk, ht, hs, n0]
    | true =>
      rw [hc] at n0
      have : ∃ c, p0 = [c] ∧ lC c = true := by
        simp at hc
        rcases hc with rfl | rfl | rfl
        · exact ⟨_, rfl, rfl⟩
        · exact ⟨_, rfl, rfl⟩
        · exact ⟨_, rfl, rfl⟩
      obtain ⟨c, rfl, hcc⟩ := this
      have hi := int_ok (c := c) (by have := lC_cases hcc; omega) (by have := lC_cases hcc; omega)
      have hd := dg_pos hcc
      cases hall : ps.all fun p => p.all okc with
      | false =>
        obtain ⟨a', e⟩ := outer_exc (tx [c]) ps hps hpl (x0 := .val (tx a)) hall
        simp only [hcc, hall, Bool.and_false, Bool.false_eq_true, if_false, Option.bind_none]
        simp [-ap_isiF, -F_ninXT, hk, ht, hs, n0, hi, e]
      | true =>
        have e := outer_ok (tx [c]) ps hps hpl (x0 := .val (tx a)) hall
        have hb := is_book_v (L := dg c) hd.1 hd.2 (ws := ps.map fun p => p.map dg) (fun w hw => by
          obtain ⟨p, h3, rfl⟩ := List.mem_map.mp hw
          rw [List.length_map]
          exact hpl p h3)
        have hdB : D.tup [.int (dg c), .tup (ps.map fun p => dI (p.map dg))] = dB (dg c) (ps.map fun p => p.map dg) := by
          simp [dB, Function.comp_def]
        simp only [hcc, hall, Bool.and_true, if_true, Option.bind_some]
        cases hbv : bookV (dg c) (ps.map fun p => p.map dg) with
        | false =>
          rw [hbv] at hb
          simp [-ap_isiF, -F_ninXT, hk, ht, hs, n0, hi, e, hdB, hb]
        | true =>
          rw [hbv] at hb
          simp [-ap_isiF, -F_ninXT, hk, ht, hs, n0, hi, e, hdB, hb]
end DL.K23
end
section
set_option Elab.async false
set_option linter.all false
set_option maxRecDepth 100000
set_option maxHeartbeats 800000
/-! k23: what the law's own reading gives of a text of signs -/
namespace DL.K23
open PySem DL DL.NA
open L2 (atI ixN)
/-- the law's loop: words done, the word under way -/
def fw : List (List Int) → List Int → List Nat → Option (List (List Int))
  | done, cur, [] => some (done ++ [cur])
  | done, cur, c :: r => if c = 47 then fw (done ++ [cur]) [] r else if okc c = true then fw done (cur ++ [dg c]) r else none
theorem fw_spl : ∀ (done : List (List Int)) (acc r : List Nat), acc.all okc = true →
    fw done (acc.map dg) r = if ((TL.spl [47] 0 acc r).all fun p => p.all okc) = true then some (done ++ (TL.spl [47] 0 acc r).map fun p => p.map dg) else none
  | done, acc, [], h => by
    rw [TL.spl_nil]
    simp [fw, h]
  | done, acc, c :: r, h => by
    unfold fw
    by_cases e : c = 47
    · subst e
      rw [if_pos rfl, TL.spl_hit (by rfl)]
      have ih := fw_spl (done ++ [acc.map dg]) [] r rfl
      simp only [List.map_nil] at ih
      rw [ih]
      simp only [List.all_cons, h, Bool.true_and, List.map_cons, List.append_assoc]
      rfl
    · rw [if_neg e, TL.spl_miss (TL.pre_of_head _ _ e)]
      cases hc : okc c with
      | true =>
        rw [if_pos rfl]
        have ih := fw_spl done (acc ++ [c]) r (by rw [List.all_append, h]; simp [hc])
        rw [List.map_append] at ih
        exact ih
      | false =>
        rw [if_neg Bool.false_ne_true]
        have bad : ∀ (r acc : List Nat), acc.all okc = false → ((TL.spl [47] 0 acc r).all fun p => p.all okc) = false := by
          intro r
          induction r with
          | nil => intro acc h; rw [TL.spl_nil]; simp [h]
          | cons d r ih =>
            intro acc h
            by_cases e : d = 47
            · subst e
              rw [TL.spl_hit (by rfl), List.all_cons, h]
              rfl
            · rw [TL.spl_miss (TL.pre_of_head _ _ e)]
              exact ih _ (by rw [List.all_append, h]; rfl)
        rw [bad r (acc ++ [c]) (by rw [List.all_append]; simp [hc])]
        rfl
theorem spl_long : ∀ (r acc : List Nat), 2 ≤ acc.length → ∃ p ps, TL.spl [47] 0 acc r = p :: ps ∧ 2 ≤ p.length
  | [], acc, h => ⟨acc, [], TL.spl_nil _ _ _, h⟩
  | c :: r, acc, h => by
    cases e : TL.pre [47] (c :: r) with
    | true => exact ⟨_, _, TL.spl_hit e, h⟩
    | false =>
      rw [TL.spl_miss e]
      exact spl_long r (acc ++ [c]) (by simp; omega)
theorem due_nil : dueC [] = none := by
  unfold dueC pcs
  rw [TL.spl_nil]
theorem due_head {c : Nat} (r : List Nat) (h : lC c = false) : dueC (c :: r) = none := by
  unfold dueC pcs
  by_cases e : c = 47
  · subst e
    rw [TL.spl_hit (by rfl)]
  · rw [TL.spl_miss (TL.pre_of_head _ _ e)]
    cases r with
    | nil => rw [TL.spl_nil]; simp [h]
    | cons d r =>
      by_cases e : d = 47
      · subst e
        rw [TL.spl_hit (by rfl)]
        simp [h]
      · rw [TL.spl_miss (TL.pre_of_head _ _ e)]
        obtain ⟨p, ps, e1, e2⟩ := spl_long r ([c] ++ [d]) (by simp)
        simp only [List.nil_append, e1]
        match p, e2 with
        | _ :: _ :: _, _ => rfl
theorem lC47 {c : Nat} (h : lC c = true) : c ≠ 47 := by
  have := lC_cases h
  omega
theorem due_one {c : Nat} (h : lC c = true) : dueC [c] = some (dg c, []) := by
  unfold dueC pcs
  rw [TL.spl_miss (TL.pre_of_head _ _ (lC47 h)), TL.spl_nil]
  simp [h]
theorem due_slash {c : Nat} (r : List Nat) (h : lC c = true) : dueC (c :: 47 :: r) = (fw [] [] r).map fun ws => (dg c, ws) := by
  have e := fw_spl [] [] r rfl
  simp only [List.map_nil] at e
  rw [e]
  unfold dueC pcs
  rw [TL.spl_miss (TL.pre_of_head _ _ (lC47 h)), TL.spl_hit (by rfl)]
  simp only [List.nil_append, h, Bool.true_and, List.length_cons, List.length_nil]
  cases ((TL.spl [47] 0 [] r).all fun p => p.all okc) <;> simp
theorem due_other {c d : Nat} (r : List Nat) (hd : d ≠ 47) : dueC (c :: d :: r) = none := by
  unfold dueC pcs
  by_cases e : c = 47
  · subst e
    rw [TL.spl_hit (by rfl)]
  · rw [TL.spl_miss (TL.pre_of_head _ _ e), TL.spl_miss (TL.pre_of_head _ _ hd)]
    obtain ⟨p, ps, e1, e2⟩ := spl_long r ([c] ++ [d]) (by simp)
    simp only [List.nil_append, e1]
    match p, e2 with
    | _ :: _ :: _, _ => rfl

/-! ### the loop -/
def due_body : MS := (sIf (mB (e2 eqF (rd 2) (eC (.str "/")))) (sDrop (eMut 1 appF (aCons (eN tupF aNil) aNil))) (sIf (bOr (mB (e2 ninX (rd 2) (eN tupF (aCons (eC (.str "0")) (aCons (eC (.str "1")) (aCons (eC (.str "2")) aNil)))))) (mB (chk 1 (M.bind (eN lstF aNil) fun j => look 1 fun d => eqF d j)))) (sRet (eC .non)) (sDrop (eSetL 1 (e2 addF (chk 1 (M.bind (e1 negI (eC (.int 1))) fun j => look 1 fun d => ixF d j)) (eN tupF (aCons (eN intSF (aCons (rd 2) aNil)) aNil))) (e1 negI (eC (.int 1)))))))
theorem str_ok {a : List Nat} (h : ∀ c ∈ a, c < 1114112) : PyData.strOk (SX.S a) = true := by
  unfold PyData.strOk
  rw [← Array.all_toList]
  simpa using h
theorem eq_tx {a b : List Nat} (ha : ∀ c ∈ a, c < 1114112) (hb : ∀ c ∈ b, c < 1114112) : eqF (tx a) (tx b) = some (.bl (decide (a = b))) := by
  unfold tx
  rw [F_eq, lvl_str, lvl_str, str_ok ha, str_ok hb, eqd_str]
  rw [SX.S_beq_eq]
  rfl
theorem atI_last {γ : Type} (xs : List γ) (x : γ) : atI (xs ++ [x]) (-1) = some x := by
  unfold atI ixN
  simp
  rw [if_pos (by omega)]
  have e : (-1 + ((xs.length : Int) + 1)).toNat = xs.length := by omega
  simp [e]
theorem set_last (xs : List D) (x y : D) : (xs ++ [x]).set ((xs ++ [x]).length - 1) y = xs ++ [y] := by
  simp
theorem body_slash {t s : D} {xs : List D} (hz : xs.length ≤ 5000) : due_body [Slot.val t, .own xs, .val (tx [47])] = .nx [Slot.val t, .own (xs ++ [.tup []]), .val (tx [47])] := by
  have e : eqF (tx [47]) (.str (Str.ofString "/")) = some (.bl true) := by
    rw [sSl]
    exact (eq_tx (by simp) (by simp)).trans (by simp)
  unfold due_body
  have hz' : xs.length + 1 ≤ 100000 := by omega
  simp [-F_eq, e, hz']
theorem ne_slash {c : Nat} (h : c ≠ 47) (hc : c < 1114112) : eqF (tx [c]) (.str (Str.ofString "/")) = some (.bl false) := by
  rw [sSl]
  exact (eq_tx (by simpa using hc) (by simp)).trans (by simp [h])
theorem body_bad {t : D} {xs : List D} {c : Nat} (h : c ≠ 47) (hc : c < 1114112) (ho : okc c = false) : due_body [Slot.val t, .own xs, .val (tx [c])] = .ret .non [Slot.val t, .own xs, .val (tx [c])] := by
  have e := ne_slash h hc
  have n := nin012 c
  rw [ho] at n
  unfold due_body
  simp [-F_eq, -F_ninXT, e, n]
theorem body_none {t : D} {c : Nat} (h : c ≠ 47) (hc : c < 1114112) : ∃ a', due_body [Slot.val t, .own [], .val (tx [c])] = .ret .non a' := by
  have e := ne_slash h hc
  have n := nin012 c
  have q : eqF (.lst []) (.lst []) = some (.bl true) := by simp
  unfold due_body
  cases ho : okc c with
  | false => rw [ho] at n; simp [-F_eq, -F_ninXT, e, n]
  | true => rw [ho] at n; simp [-F_eq, -F_ninXT, e, n, q]
theorem body_digit {t : D} {ws : List (List Int)} {w : List Int} {c : Nat} (hc : okc c = true) (hz : w.length ≤ 5000) :
    due_body [Slot.val t, .own ((ws ++ [w]).map dI), .val (tx [c])] = .nx [Slot.val t, .own ((ws ++ [w ++ [dg c]]).map dI), .val (tx [c])] := by
  have h48 := okc_cases hc
  have e := ne_slash (c := c) (by omega) (by omega)
  have n := nin012 c
  rw [hc] at n
  have hi := int_ok (c := c) (by omega) (by omega)
  have q : eqF (.lst ((ws ++ [w]).map dI)) (.lst []) = some (.bl false) := by
    have : lvls 59 ((ws ++ [w]).map dI) = true := lvls_map _ _ _ fun x => lvl_dI _ _
    cases ws with
    | nil => simp
    | cons a ws => simp at this ⊢; simp [this]
  have at1 : atI ((ws ++ [w]).map dI) (-1) = some (dI w) := by
    rw [List.map_append]
    exact atI_last _ _
  have hz' : w.length + 1 ≤ 100000 := by omega
  have ad : addF (dI w) (.tup [.int (dg c)]) = some (dI (w ++ [dg c])) := by
    unfold dI
    rw [F_addT]
    simp [hz']
  have st : ((ws ++ [w]).map dI).set (((ws ++ [w]).map dI).length - 1) (dI (w ++ [dg c])) = (ws ++ [w ++ [dg c]]).map dI := by
    rw [List.map_append, List.map_append]
    exact set_last _ _ _
  have ps : 0 < ((ws ++ [w]).map dI).length := by simp
  generalize (ws ++ [w]).map dI = xs at *
  generalize (ws ++ [w ++ [dg c]]).map dI = ys at *
  unfold due_body
  simp [-F_eq, -F_ninXT, e, n, q, eSetL, at1, hi, ad, ps, st]
/-- the loop behind the first stroke -/
theorem loop_ok (t : D) : ∀ (r : List Nat) (done : List (List Int)) (cur : List Int) (s : DL.Slot), (∀ c ∈ r, c < 1114112) → done.length + r.length ≤ 2000 → cur.length + r.length ≤ 2000 →
    match fw done cur r with
    | some ws => ∃ s', forD (gN 2) due_body (r.map fun c => tx [c]) [Slot.val t, .own ((done ++ [cur]).map dI), s] = .nx [Slot.val t, .own (ws.map dI), s']
    | none => ∃ a', forD (gN 2) due_body (r.map fun c => tx [c]) [Slot.val t, .own ((done ++ [cur]).map dI), s] = .ret .non a'
  | [], done, cur, s, _, _, _ => ⟨s, rfl⟩
  | c :: r, done, cur, s, hc, h1, h2 => by
    have hcc := hc c List.mem_cons_self
    have hr : ∀ c ∈ r, c < 1114112 := fun d hd => hc d (List.mem_cons_of_mem _ hd)
    have hg : gN 2 (tx [c]) [Slot.val t, .own ((done ++ [cur]).map dI), s] = some [Slot.val t, .own ((done ++ [cur]).map dI), .val (tx [c])] := rfl
    simp only [List.length_cons] at h1 h2
    rw [List.map_cons]
    unfold fw forD
    rw [hg]
    by_cases e : c = 47
    · subst e
      have eb := body_slash (t := t) (s := t) (xs := (done ++ [cur]).map dI) (by simp; omega)
      have e2 : (done ++ [cur]).map dI ++ [.tup []] = ((done ++ [cur]) ++ [[]]).map dI := by
        rw [List.map_append (l₁ := done ++ [cur])]
        rfl
      rw [e2] at eb
      rw [if_pos rfl]
      simp only [eb]
      exact loop_ok t r (done ++ [cur]) [] _ hr (by simp; omega) (by simp; omega)
    · rw [if_neg e]
      cases ho : okc c with
      | true =>
        have eb := body_digit (t := t) (ws := done) (w := cur) ho (by omega)
        rw [if_pos rfl]
        simp only [eb]
        exact loop_ok t r done (cur ++ [dg c]) _ hr (by omega) (by simp; omega)
      | false =>
        have eb := body_bad (t := t) (xs := (done ++ [cur]).map dI) e hcc ho
        rw [if_neg Bool.false_ne_true]
        simp only [eb]
        exact ⟨_, rfl⟩
theorem start_slash (t : D) (q : List Nat) (hc : ∀ c ∈ q, c < 1114112) (h1 : q.length ≤ 1000) :
    match fw [] [] q with
    | some ws => ∃ s', forD (gN 2) due_body ((47 :: q).map fun c => tx [c]) [Slot.val t, .own [], .no] = .nx [Slot.val t, .own (ws.map dI), s']
    | none => ∃ a', forD (gN 2) due_body ((47 :: q).map fun c => tx [c]) [Slot.val t, .own [], .no] = .ret .non a' := by
  have hg : gN 2 (tx [47]) [Slot.val t, .own [], .no] = some [Slot.val t, .own [], .val (tx [47])] := rfl
  have eb := body_slash (t := t) (s := t) (xs := []) (by simp)
  have e2 : ([] : List D) ++ [.tup []] = (([] : List (List Int)) ++ [[]]).map dI := rfl
  rw [e2] at eb
  have ef : forD (gN 2) due_body ((47 :: q).map fun c => tx [c]) [Slot.val t, .own [], .no] = forD (gN 2) due_body (q.map fun c => tx [c]) [Slot.val t, .own ((([] : List (List Int)) ++ [[]]).map dI), .val (tx [47])] := by
    rw [List.map_cons]
    conv => lhs; unfold forD
    rw [hg]
    simp only [eb]
  rw [ef]
  exact loop_ok t q [] [] _ hc (by simp; omega) (by simp; omega)
theorem start_other (t : D) {c : Nat} (q : List Nat) (e : c ≠ 47) (hc : c < 1114112) : ∃ a', forD (gN 2) due_body ((c :: q).map fun c => tx [c]) [Slot.val t, .own [], .no] = .ret .non a' := by
  have hg : gN 2 (tx [c]) [Slot.val t, .own [], .no] = some [Slot.val t, .own [], .val (tx [c])] := rfl
  obtain ⟨a', eb⟩ := body_none (t := t) e hc
  refine ⟨a', ?_⟩
  rw [List.map_cons]
  unfold forD
  rw [hg]
  simp only [eb]
theorem fw_len {n : Nat} : ∀ (r : List Nat) (done : List (List Int)) (cur : List Int) (ws : List (List Int)), fw done cur r = some ws → (∀ w ∈ done, w.length ≤ n) → cur.length + r.length ≤ n → ∀ w ∈ ws, w.length ≤ n
  | [], done, cur, ws, e, h1, h2 => by
    unfold fw at e
    cases e
    intro w hw
    rcases List.mem_append.mp hw with hw | hw
    · exact h1 w hw
    · have : w = cur := by simpa using hw
      subst this
      simpa using h2
  | c :: r, done, cur, ws, e, h1, h2 => by
    unfold fw at e
    simp only [List.length_cons] at h2
    split at e
    · refine fw_len r _ _ ws e (fun w hw => ?_) (by simp; omega)
      rcases List.mem_append.mp hw with hw | hw
      · exact h1 w hw
      · have : w = cur := by simpa using hw
        subst this
        omega
    · split at e
      · exact fw_len r _ _ ws e h1 (by simp; omega)
      · cases e

/-! ### cuts of texts -/
theorem cut_tx {a : List Nat} (h : a.length ≤ 5000) (lo hi : Option Int) : cutF (tx a) lo hi = some (.str (PySem.Txt.slice (SX.S a) lo hi)) := by
  have e : cutF (tx a) lo hi = if sz (SX.S a).length = true then some (.str (L2.cutS (SX.S a) lo hi)) else none := rfl
  rw [e, if_pos (by rw [SX.S_len]; exact sz_le (by omega)), C8.cutS_slice]
theorem cut_to {a : List Nat} (h : a.length ≤ 5000) {i : Int} (hi : 0 ≤ i) : cutF (tx a) none (some i) = some (tx (a.take i.toNat)) := by
  rw [cut_tx h, SX.slice_to hi]
  rfl
theorem cut_from {a : List Nat} (h : a.length ≤ 5000) {i : Int} (hi : 0 ≤ i) : cutF (tx a) (some i) none = some (tx (a.drop i.toNat)) := by
  rw [cut_tx h, SX.slice_from hi]
  rfl
theorem it_tx (a : List Nat) : itF (tx a) = some (a.map fun c => tx [c]) := rfl
theorem ix_tx {c : Nat} {r : List Nat} (h : r.length ≤ 5000) : ixF (tx (c :: r)) (.int 0) = some (tx [c]) := by
  have e : ixF (tx (c :: r)) (.int 0) = if sz (SX.S (c :: r)).length = true then (atI (c :: r) 0).map fun c => D.str ⟨#[c]⟩ else none := rfl
  rw [e, if_pos (by rw [SX.S_len]; exact sz_le (by simp; omega)), atI_0]
  rfl
end DL.K23
end
section
set_option Elab.async false
set_option linter.all false
set_option maxRecDepth 100000
set_option maxHeartbeats 800000
/-! k23: the law's own reading -/
namespace DL.K23
open PySem DL DL.NA
open L2 (atI ixN)
theorem ap_tryN (ks : List Nat) (b : MS) (T : Nat) (h : MS) (a : AS) : sTryN ks b T h a = match b a with
    | .exc c a' => if c ∈ ks then (if subE c T = true then (h a').noExc else .exc c a') else .bad
    | r => r := (rfl)
theorem lC_take (c : Nat) : (decide (([c] : List Nat) = [49]) || (decide (([c] : List Nat) = [50]) || decide (([c] : List Nat) = [51]))) = lC c := by
  unfold lC
  simp
theorem due_ok {a : List Nat} (hl : a.length ≤ 500) (hc : ∀ c ∈ a, c < 1114112) : m__law_due [tx a] = match dueD a with
    | some d => .ok d
    | none => .ok .non := by
  have hk : isiF "str" (rd 0) [Slot.val (tx a), .no, .no] = .ok (.bl true) [Slot.val (tx a), .no, .no] := by simp [tx]
  have c1 := cut_to (a := a) (by omega) (i := 1) (by decide)
  have c2 := cut_from (a := a) (by omega) (i := 1) (by decide)
  unfold dueD
  cases a with
  | nil =>
    have n := nin123 []
    rw [due_nil]
    unfold m__law_due b__law_due
    simp [-ap_isiF, -F_ninXT, hk, c1, n]
  | cons c r =>
    have n := nin123 [c]
    rw [lC_take] at n
    simp only [Int.toNat_one, List.take_succ_cons, List.take_zero, List.drop_succ_cons, List.drop_zero] at c1 c2
    cases hcc : lC c with
    | false =>
      rw [hcc] at n
      rw [due_head r hcc]
      unfold m__law_due b__law_due
      simp [-ap_isiF, -F_ninXT, hk, c1, n]
    | true =>
      rw [hcc] at n
      have hd := dg_pos hcc
      have hi := int_ok (c := c) (by have := lC_cases hcc; omega) (by have := lC_cases hcc; omega)
      simp only [List.length_cons] at hl
      have h0 := ix_tx (c := c) (r := r) (by omega)
      have it := it_tx r
      unfold m__law_due b__law_due
      cases r with
      | nil =>
        rw [due_one hcc]
        have hb := checked_v (L := dg c) hd.1 hd.2 (ws := []) (by simp)
        have bv : bookV (dg c) [] = false := rfl
        rw [bv] at hb
        have e : D.tup [.int (dg c), .tup []] = dB (dg c) [] := rfl
        simp [-ap_isiF, -F_ninXT, hk, c1, c2, n, it, h0, hi, forD, ap_tryN, e, hb, RS.noExc, bv]
      | cons d q =>
        have hq : ∀ c ∈ q, c < 1114112 := fun x hx => hc x (by simp [hx])
        by_cases ed : d = 47
        · subst ed
          have lp := start_slash (tx (c :: 47 :: q)) q hq (by simp at hl; omega)
          rw [due_slash q hcc]
          unfold due_body at lp
          cases hf : fw [] [] q with
          | none =>
            rw [hf] at lp
            obtain ⟨a', lp⟩ := lp
            simp [-ap_isiF, -F_ninXT, hk, c1, c2, n, it] at lp ⊢
            simp [-ap_isiF, -F_ninXT, lp]
          | some ws =>
            rw [hf] at lp
            obtain ⟨s', lp⟩ := lp
            have hw := fw_len (n := 1000) q [] [] ws hf (by simp) (by simp at hl ⊢; omega)
            have hb := checked_v (L := dg c) hd.1 hd.2 hw
            have e : D.tup [.int (dg c), .tup (ws.map dI)] = dB (dg c) ws := rfl
            cases bv : bookV (dg c) ws with
            | true =>
              rw [bv] at hb
              simp [-ap_isiF, -F_ninXT, hk, c1, c2, n, it] at lp ⊢
              simp [-ap_isiF, -F_ninXT, lp, h0, hi, ap_tryN, e, hb, RS.noExc, bv]
            | false =>
              rw [bv] at hb
              simp [-ap_isiF, -F_ninXT, hk, c1, c2, n, it] at lp ⊢
              simp [-ap_isiF, -F_ninXT, lp, h0, hi, ap_tryN, e, hb, RS.noExc, bv]
        · obtain ⟨a', lp⟩ := start_other (tx (c :: d :: q)) q ed (hc d (by simp))
          rw [due_other q ed]
          unfold due_body at lp
          simp [-ap_isiF, -F_ninXT, hk, c1, c2, n, it] at lp ⊢
          simp [-ap_isiF, -F_ninXT, lp]
end DL.K23
end
section
set_option Elab.async false
set_option linter.all false
set_option maxRecDepth 100000
set_option maxHeartbeats 800000
/-! k23: the text of a book -/
namespace DL.K23
open PySem DL DL.NA
open L2 (atI ixN)
def un (x : Int) : Nat := x.toNat + 48
def wordT (w : List Int) : List Nat := 47 :: w.map un
def textL (L : Int) (ws : List (List Int)) : List Nat := un L :: (ws.map wordT).flatten
theorem num4 : ∀ k : Nat, k < 4 → Str.ofString (toString (k : Int)) = SX.S [k + 48] := by decide +kernel
theorem num_ok {x : Int} (h : 0 ≤ x) (h2 : x ≤ 3) : strNF [.int x] = some (tx [un x]) := by
  obtain ⟨k, rfl, h3⟩ := nat_of (m := x) (k := 4) ⟨h, by omega⟩
  have e : strNF [.int (k : Int)] = if decide ((k : Int).natAbs.log2 < 1920) = true then some (.str (Str.ofString (toString (k : Int)))) else none := rfl
  have h4 : (k : Int).natAbs.log2 < 1920 := by
    have : k < 4 := h3
    have : ∀ k : Nat, k < 4 → (k : Int).natAbs.log2 < 1920 := by decide
    exact this k (by omega)
  rw [e, if_pos (decide_eq_true h4), num4 k h3]
  rfl
theorem joinL_one : ∀ l : List Nat, TL.joinL [] (l.map fun c => [c]) = l
  | [] => rfl
  | [c] => rfl
  | c :: d :: l => by
    have ih := joinL_one (d :: l)
    simp only [List.map_cons] at ih ⊢
    unfold TL.joinL
    rw [ih]
    rfl
theorem sum_one {γ : Type} (f : γ → Nat) : ∀ l : List γ, (∀ x ∈ l, f x = 1) → (l.map f).sum = l.length
  | [], _ => rfl
  | x :: l, h => by
    rw [List.map_cons, List.sum_cons, h x List.mem_cons_self, sum_one f l fun y hy => h y (List.mem_cons_of_mem _ hy)]
    simp
    omega
theorem join_ok {w : List Int} (h : w.length ≤ 1000) : joinF (.str (Str.ofString "")) [.lst (w.map fun x => tx [un x])] = some (tx (w.map un)) := by
  have e : ∀ xs, joinF (.str (Str.ofString "")) [.lst xs] = (asSt xs).bind fun zs => if decide ((zs.map (·.length)).sum + zs.length * (Str.ofString "").length ≤ 16777216) = true then some (.str (Txt.join (Str.ofString "") zs)) else none := fun _ => rfl
  have e1 : asSt (w.map fun x => tx [un x]) = some ((w.map fun x => [un x]).map SX.S) := by
    have := asSt_map ((w.map fun x => [un x]).map SX.S)
    rw [List.map_map, List.map_map] at this
    exact this
  rw [e, e1, Option.bind_some, sE]
  have hs : (((w.map fun x => [un x]).map SX.S).map (·.length)).sum = w.length := by
    rw [SX.lens, List.map_map]
    exact sum_one _ _ fun _ _ => rfl
  rw [hs, SX.S_len, if_pos (decide_eq_true (by simp; omega)), SX.join_S]
  have : (w.map fun x => [un x]) = (w.map un).map fun c => [c] := by rw [List.map_map]; rfl
  rw [this, joinL_one]
  rfl
theorem add_tx {a b : List Nat} (h : a.length + b.length ≤ 50000) : addF (tx a) (tx b) = some (tx (a ++ b)) := by
  have e : addF (tx a) (tx b) = if sz ((SX.S a).length + (SX.S b).length) = true then some (.str (SX.S a ++ SX.S b)) else none := rfl
  rw [e, SX.S_len, SX.S_len, if_pos (sz_le (by omega)), SX.S_cat]
  rfl
theorem letters {L : Int} {w : List Int} (h3 : L ≤ 3) (h : Lt L w) : ∀ x ∈ w, 0 ≤ x ∧ x ≤ 3 := fun x hx => by
  have := h x hx
  omega
def made_body : MS := (sAsg (e2 addF (e2 addF (rd 1) (eC (.str "/"))) (eM "str" joinF (eC (.str "")) (aCons (eLC [3] (mIt (rd 2)) (gN 3) (M.pure true) (eN strNF (aCons (rd 3) aNil))) aNil))) (gN 1))
theorem made_one (t : D) {acc : List Nat} {w : List Int} (hw : ∀ x ∈ w, 0 ≤ x ∧ x ≤ 3) (hl : w.length ≤ 1000) (ha : acc.length ≤ 5000) :
    made_body [Slot.val t, .val (tx acc), .val (dI w), .no] = .nx [Slot.val t, .val (tx (acc ++ wordT w)), .val (dI w), .no] := by
  have e := LC_map (vs := [3]) (mi := mIt (rd 2)) (g := gN 3) (e := eN strNF (aCons (rd 3) aNil)) (a := [Slot.val t, .val (tx acc), .val (dI w), .no]) w D.int (fun x => tx [un x]) (by simp [dI]) (by simp; omega) rfl (fun x hx => by
    refine ⟨_, rfl, ?_, rfl⟩
    have := hw x hx
    simp [wipeA, num_ok this.1 this.2])
  have e1 : addF (tx acc) (.str (Str.ofString "/")) = some (tx (acc ++ [47])) := by
    rw [sSl]
    exact add_tx (by simp; omega)
  have e2' : addF (tx (acc ++ [47])) (tx (w.map un)) = some (tx (acc ++ wordT w)) := by
    rw [add_tx (by simp; omega)]
    simp [wordT]
  have ty : tyM "str" (.str (Str.ofString "")) = true := rfl
  unfold made_body
  simp [e1, e, ty, join_ok hl, e2']
theorem made_all (t : D) : ∀ (ws : List (List Int)) (acc : List Nat) (s : DL.Slot), (∀ w ∈ ws, (∀ x ∈ w, 0 ≤ x ∧ x ≤ 3) ∧ w.length ≤ 6) → acc.length + 7 * ws.length ≤ 5000 →
    ∃ s', forD (gN 2) made_body (ws.map dI) [Slot.val t, .val (tx acc), s, .no] = .nx [Slot.val t, .val (tx (acc ++ (ws.map wordT).flatten)), s', .no]
  | [], acc, s, _, _ => ⟨s, by simp [forD]⟩
  | w :: ws, acc, s, h, hl => by
    obtain ⟨h1, h2⟩ := h w List.mem_cons_self
    simp only [List.length_cons] at hl
    have e := made_one t (acc := acc) h1 (by omega) (by omega)
    obtain ⟨s', ih⟩ := made_all t ws (acc ++ wordT w) (.val (dI w)) (fun v hv => h v (List.mem_cons_of_mem _ hv)) (by simp [wordT]; omega)
    refine ⟨s', ?_⟩
    have hg : gN 2 (dI w) [Slot.val t, .val (tx acc), s, .no] = some [Slot.val t, .val (tx acc), .val (dI w), .no] := rfl
    rw [List.map_cons]
    unfold forD
    rw [hg]
    simp only [e]
    rw [ih]
    simp
theorem Bk.wd {L : Int} {ws : List (List Int)} (h : Bk L ws) : ∀ w ∈ ws, (∀ x ∈ w, 0 ≤ x ∧ x ≤ 3) ∧ w.length ≤ 6 := fun w hw => ⟨letters h.l2 (h.lt w hw), h.len w hw⟩
theorem shown_ok {L : Int} {ws : List (List Int)} (h : Bk L ws) : m_shown [dB L ws] = .ok (tx (textL L ws)) := by
  have hn := num_ok (x := L) (by have := h.l1; omega) h.l2
  obtain ⟨s', e⟩ := made_all (dB L ws) ws [un L] .no (Bk.wd h) (by have := h.w2; simp; omega)
  unfold made_body at e
  have e : m_text_of [dB L ws] = .ok (tx (textL L ws)) := by
    unfold m_text_of b_text_of
    simp [dB, hn] at e ⊢
    simp [e]
    rfl
  unfold m_shown b_shown
  simp [checked_ok h, e]
/-! the law's own -/
def let_body : MS := (sAsg (e2 addF (rd 1) (eN strNF (aCons (rd 3) aNil))) (gN 1))
theorem let_all (t u : D) : ∀ (w : List Int) (acc : List Nat) (s : DL.Slot), (∀ x ∈ w, 0 ≤ x ∧ x ≤ 3) → acc.length + w.length ≤ 6000 →
    ∃ s', forD (gN 3) let_body (w.map D.int) [Slot.val t, .val (tx acc), .val u, s] = .nx [Slot.val t, .val (tx (acc ++ w.map un)), .val u, s']
  | [], acc, s, _, _ => ⟨s, by simp [forD]⟩
  | x :: w, acc, s, h, hl => by
    have hx := h x List.mem_cons_self
    simp only [List.length_cons] at hl
    have e1 := add_tx (a := acc) (b := [un x]) (by simp; omega)
    have e : let_body [Slot.val t, .val (tx acc), .val u, .val (.int x)] = .nx [Slot.val t, .val (tx (acc ++ [un x])), .val u, .val (.int x)] := by
      unfold let_body
      simp [num_ok hx.1 hx.2, e1]
    obtain ⟨s', ih⟩ := let_all t u w (acc ++ [un x]) (.val (.int x)) (fun v hv => h v (List.mem_cons_of_mem _ hv)) (by simp; omega)
    refine ⟨s', ?_⟩
    have hg : gN 3 (.int x) [Slot.val t, .val (tx acc), .val u, s] = some [Slot.val t, .val (tx acc), .val u, .val (.int x)] := rfl
    rw [List.map_cons]
    unfold forD
    rw [hg]
    simp only [e]
    rw [ih]
    simp
def ltext_body : MS := (sSeq (sAsg (e2 addF (rd 1) (eC (.str "/"))) (gN 1)) (sFor (mIt (rd 2)) (gN 3) let_body))
theorem ltext_all (t : D) : ∀ (ws : List (List Int)) (acc : List Nat) (s s3 : DL.Slot), (∀ w ∈ ws, (∀ x ∈ w, 0 ≤ x ∧ x ≤ 3) ∧ w.length ≤ 6) → acc.length + 7 * ws.length ≤ 5000 →
    ∃ s' s3', forD (gN 2) ltext_body (ws.map dI) [Slot.val t, .val (tx acc), s, s3] = .nx [Slot.val t, .val (tx (acc ++ (ws.map wordT).flatten)), s', s3']
  | [], acc, s, s3, _, _ => ⟨s, s3, by simp [forD]⟩
  | w :: ws, acc, s, s3, h, hl => by
    obtain ⟨h1, h2⟩ := h w List.mem_cons_self
    simp only [List.length_cons] at hl
    have e1 : addF (tx acc) (.str (Str.ofString "/")) = some (tx (acc ++ [47])) := by
      rw [sSl]
      exact add_tx (by simp; omega)
    obtain ⟨s4, e2'⟩ := let_all t (dI w) w (acc ++ [47]) s3 h1 (by simp; omega)
    have e : ltext_body [Slot.val t, .val (tx acc), .val (dI w), s3] = .nx [Slot.val t, .val (tx (acc ++ wordT w)), .val (dI w), s4] := by
      have it : itF (dI w) = some (w.map D.int) := rfl
      unfold ltext_body
      simp [e1, it, e2', wordT]
    obtain ⟨s', s3', ih⟩ := ltext_all t ws (acc ++ wordT w) (.val (dI w)) s4 (fun v hv => h v (List.mem_cons_of_mem _ hv)) (by simp [wordT]; omega)
    refine ⟨s', s3', ?_⟩
    have hg : gN 2 (dI w) [Slot.val t, .val (tx acc), s, s3] = some [Slot.val t, .val (tx acc), .val (dI w), s3] := rfl
    rw [List.map_cons]
    unfold forD
    rw [hg]
    simp only [e]
    rw [ih]
    simp
theorem ltext_ok {L : Int} {ws : List (List Int)} (h : Bk L ws) : m__law_text [dB L ws] = .ok (tx (textL L ws)) := by
  have hn := num_ok (x := L) (by have := h.l1; omega) h.l2
  obtain ⟨s', s3', e⟩ := ltext_all (dB L ws) ws [un L] .no .no (Bk.wd h) (by have := h.w2; simp; omega)
  unfold ltext_body let_body at e
  unfold m__law_text b__law_text
  simp [dB, hn] at e ⊢
  simp [e]
  rfl
/-! what the text tells -/
theorem dg_un {x : Int} (h : 0 ≤ x) : dg (un x) = x := by
  unfold dg un
  omega
theorem okc_un {x : Int} (h : 0 ≤ x) (h2 : x ≤ 2) : okc (un x) = true := by
  have : x = 0 ∨ x = 1 ∨ x = 2 := by omega
  rcases this with rfl | rfl | rfl <;> rfl
theorem fw_word : ∀ (w : List Int) (done : List (List Int)) (cur : List Int) (r : List Nat), (∀ x ∈ w, 0 ≤ x ∧ x ≤ 2) → fw done cur (w.map un ++ r) = fw done (cur ++ w) r
  | [], done, cur, r, _ => by simp
  | x :: w, done, cur, r, h => by
    have hx := h x List.mem_cons_self
    have ne : un x ≠ 47 := by unfold un; omega
    rw [List.map_cons, List.cons_append]
    conv => lhs; unfold fw
    rw [if_neg ne, if_pos (okc_un hx.1 hx.2), dg_un hx.1, fw_word w done (cur ++ [x]) r fun y hy => h y (List.mem_cons_of_mem _ hy)]
    simp
theorem fw_words : ∀ (ws : List (List Int)) (done : List (List Int)) (cur : List Int), (∀ w ∈ ws, ∀ x ∈ w, 0 ≤ x ∧ x ≤ 2) → fw done cur (ws.map wordT).flatten = some (done ++ cur :: ws)
  | [], done, cur, _ => by simp [fw]
  | w :: ws, done, cur, h => by
    have e : ((w :: ws).map wordT).flatten = 47 :: (w.map un ++ (ws.map wordT).flatten) := by simp [wordT]
    rw [e]
    conv => lhs; unfold fw
    rw [if_pos rfl, fw_word w _ [] _ (h w List.mem_cons_self), List.nil_append, fw_words ws _ w fun v hv => h v (List.mem_cons_of_mem _ hv)]
    simp
theorem bookV_ok {L : Int} {ws : List (List Int)} (h : Bk L ws) : bookV L ws = true := by
  have h1 := h.w1
  have h2 := h.w2
  unfold bookV
  simp only [h1, h2, decide_true, Bool.true_and]
  refine List.all_eq_true.mpr fun w hw => ?_
  have h3 := h.len w hw
  unfold wvB
  simp only [h3, decide_true, Bool.true_and]
  refine List.all_eq_true.mpr fun x hx => ?_
  have := h.lt w hw x hx
  simp
  omega
theorem text_due {L : Int} {ws : List (List Int)} (h : Bk L ws) : dueD (textL L ws) = some (dB L ws) := by
  have hl : lC (un L) = true := by
    have h1 := h.l1
    have h2 := h.l2
    have : L = 1 ∨ L = 2 ∨ L = 3 := by omega
    rcases this with rfl | rfl | rfl <;> rfl
  unfold dueD textL
  cases ws with
  | nil => exact absurd h.w1 (by simp)
  | cons w ws =>
    have hx : ∀ v ∈ w :: ws, ∀ x ∈ v, 0 ≤ x ∧ x ≤ 2 := fun v hv x hx => by
      have := h.lt v hv x hx
      have := h.l2
      omega
    have e : ((w :: ws).map wordT).flatten = 47 :: (w.map un ++ (ws.map wordT).flatten) := by simp [wordT]
    rw [e, due_slash _ hl, fw_word w [] [] _ (hx w List.mem_cons_self), List.nil_append, fw_words ws [] w fun v hv => hx v (List.mem_cons_of_mem _ hv)]
    simp only [Option.map_some, Option.bind_some, List.nil_append]
    rw [dg_un (by have := h.l1; omega), bookV_ok h]
    simp
theorem text_len {L : Int} {ws : List (List Int)} (h : Bk L ws) : (textL L ws).length ≤ 40 ∧ ∀ c ∈ textL L ws, c < 128 := by
  constructor
  · have : ∀ ws : List (List Int), (∀ w ∈ ws, w.length ≤ 6) → ((ws.map wordT).flatten).length ≤ 7 * ws.length := by
      intro ws
      induction ws with
      | nil => intro _; simp
      | cons w ws ih =>
        intro h
        have h1 := ih fun v hv => h v (List.mem_cons_of_mem _ hv)
        have h2 := h w List.mem_cons_self
        rw [List.map_cons, List.flatten_cons, List.length_append, List.length_cons]
        have : (wordT w).length = w.length + 1 := by simp [wordT]
        omega
    have h1 := this ws h.len
    have h2 := h.w2
    unfold textL
    rw [List.length_cons]
    omega
  · intro c hc
    unfold textL at hc
    have h1 := h.l1
    have h2 := h.l2
    rcases List.mem_cons.mp hc with rfl | hc
    · unfold un; omega
    · obtain ⟨t, ht, hc⟩ := List.mem_flatten.mp hc
      obtain ⟨w, hw, rfl⟩ := List.mem_map.mp ht
      unfold wordT at hc
      rcases List.mem_cons.mp hc with rfl | hc
      · decide
      · obtain ⟨x, hx, rfl⟩ := List.mem_map.mp hc
        have := h.lt w hw x hx
        unfold un; omega
end DL.K23
end
section
set_option Elab.async false
set_option linter.all false
set_option maxRecDepth 100000
set_option maxHeartbeats 800000
/-! k23: the spoilt text -/
namespace DL.K23
open PySem DL DL.NA
open L2 (atI ixN)
def Low (b : List Nat) : Prop := ∀ c ∈ b, c < 128
/-- what a spoilt text may be -/
def Good (a : List Nat) (x : D) : Prop := (∃ b, x = tx b ∧ b.length ≤ 200 ∧ Low b) ∨ x = .non ∨ x = .int 5 ∨ x = .lst [tx a]
theorem len_tx {a : List Nat} (h : a.length ≤ 5000) : lenF [tx a] = some (.int (a.length : Int)) := by
  have e : lenF [tx a] = if sz (SX.S a).length = true then some (.int (SX.S a).length) else none := rfl
  rw [e, SX.S_len, if_pos (sz_le (by omega))]
theorem ixs {a : List Nat} (h : a.length ≤ 5000) {i : Nat} (hi : i < a.length) : ixF (tx a) (.int (i : Int)) = some (tx [a[i]]) := by
  have e : ixF (tx a) (.int (i : Int)) = if sz (SX.S a).length = true then (atI a (i : Int)).map fun c => D.str ⟨#[c]⟩ else none := rfl
  rw [e, SX.S_len, if_pos (sz_le (by omega)), atI_nat, List.getElem?_eq_getElem hi]
  rfl
def signs : List Nat := [47, 48, 49, 50, 51, 52, 45, 65, 120, 32]
theorem sSigns : Str.ofString "/01234-Ax " = SX.S signs := by rfl
theorem sSp : Str.ofString " " = SX.S [32] := by rfl
theorem Low.append {a b : List Nat} (h : Low a) (g : Low b) : Low (a ++ b) := fun c hc => (List.mem_append.mp hc).elim (h c) (g c)
theorem Low.take {a : List Nat} (h : Low a) (n : Nat) : Low (a.take n) := fun c hc => h c (List.mem_of_mem_take hc)
theorem Low.drop {a : List Nat} (h : Low a) (n : Nat) : Low (a.drop n) := fun c hc => h c (List.mem_of_mem_drop hc)
theorem pick {xs : List D} {P : D → Prop} {m : Int} (h : 0 ≤ m ∧ m < (xs.length : Int)) (hp : ∀ d ∈ xs, P d) : ∃ x, atI xs m = some x ∧ P x := by
  obtain ⟨i, rfl⟩ : ∃ i : Nat, m = i := ⟨m.toNat, by omega⟩
  have hi : i < xs.length := by omega
  refine ⟨xs[i], ?_, hp _ (List.getElem_mem hi)⟩
  rw [atI_nat, List.getElem?_eq_getElem hi]
theorem spoilt_ok {a : List Nat} (ha : a.length ≤ 40) (hlo : Low a) {c : Int} (hc : 0 ≤ c) {more : List D} (hm : more.length = 16) (hg : ∀ d ∈ more, Good a d) :
    ∃ x, m__law_spoilt_k23 [tx a, .int c, .lst more] = .ok x ∧ Good a x := by
  have l1 := len_tx (a := a) (by omega)
  obtain ⟨i, hi, hi2⟩ := nat_of (m := c % ((a.length : Int) + 1)) (k := (a.length : Int) + 1) ⟨Int.emod_nonneg _ (by omega), Int.emod_lt_of_pos _ (by omega)⟩
  have hm1 : modI (.int c) (.int ((a.length : Int) + 1)) = some (.int (i : Int)) := by
    rw [F_modI, if_pos (show cMod c ((a.length : Int) + 1) = true from decide_eq_true (by omega)), hi]
  obtain ⟨j, hj, hj2⟩ := nat_of (m := c / 1000 % 10) (k := 10) ⟨Int.emod_nonneg _ (by decide), Int.emod_lt_of_pos _ (by decide)⟩
  have hj3 : j < signs.length := by
    have : signs.length = 10 := rfl
    omega
  have hsg : ixF (.str (Str.ofString "/01234-Ax ")) (.int (c / 1000 % 10)) = some (tx [signs[j]]) := by
    rw [sSigns, hj]
    exact ixs (a := signs) (by decide) hj3
  have hs128 : signs[j] < 128 := by
    have : ∀ s ∈ signs, s < 128 := by decide
    exact this _ (List.getElem_mem hj3)
  generalize signs[j] = s at hsg hs128
  have hd1 : divI (.int c) (.int 1000) = some (.int (c / 1000)) := by
    rw [F_divI, if_pos (by rfl)]
  have hd1' : modI (.int (c / 1000)) (.int 10) = some (.int (c / 1000 % 10)) := by
    rw [F_modI, if_pos (by rfl)]
  have hd2 : divI (.int c) (.int 40000) = some (.int (c / 40000)) := by
    rw [F_divI, if_pos (by rfl)]
  obtain ⟨f, hf, hf2⟩ := nat_of (m := c / 40000 % 6) (k := 6) ⟨Int.emod_nonneg _ (by decide), Int.emod_lt_of_pos _ (by decide)⟩
  have hd2' : modI (.int (c / 40000)) (.int 6) = some (.int (f : Int)) := by
    rw [F_modI, if_pos (by rfl), hf]
  have hd3 : divI (.int c) (.int 7) = some (.int (c / 7)) := by
    rw [F_divI, if_pos (by rfl)]
  obtain ⟨k, hk, hk2⟩ := nat_of (m := c / 7 % 9) (k := 9) ⟨Int.emod_nonneg _ (by decide), Int.emod_lt_of_pos _ (by decide)⟩
  have hd3' : modI (.int (c / 7)) (.int 9) = some (.int (k : Int)) := by
    rw [F_modI, if_pos (by rfl), hk]
  have tk := cut_to (a := a) (by omega) (i := (i : Int)) (by omega)
  have dr := cut_from (a := a) (by omega) (i := (i : Int)) (by omega)
  have dr1 := cut_from (a := a) (by omega) (i := (i : Int) + 1) (by omega)
  have drk := cut_from (a := a) (by omega) (i := (i : Int) + (k : Int)) (by omega)
  have b1 := hlo.take (i : Int).toNat
  have b2 := hlo.drop (i : Int).toNat
  have b3 := hlo.drop ((i : Int) + 1).toNat
  have b4 := hlo.drop ((i : Int) + (k : Int)).toNat
  have n1 : (a.take (i : Int).toNat).length ≤ 40 := by rw [List.length_take]; omega
  have n2 : (a.drop (i : Int).toNat).length ≤ 40 := by rw [List.length_drop]; omega
  have n3 : (a.drop ((i : Int) + 1).toNat).length ≤ 40 := by rw [List.length_drop]; omega
  have n4 : (a.drop ((i : Int) + (k : Int)).toNat).length ≤ 40 := by rw [List.length_drop]; omega
  have ls : Low [s] := fun c hc => by
    have : c = s := by simpa using hc
    omega
  have l32 : Low [32] := fun c hc => by
    have : c = 32 := by simpa using hc
    omega
  generalize a.take (i : Int).toNat = p1 at *
  generalize a.drop (i : Int).toNat = p2 at *
  generalize a.drop ((i : Int) + 1).toNat = p3 at *
  generalize a.drop ((i : Int) + (k : Int)).toNat = p4 at *
  have a1 := add_tx (a := p1) (b := [s]) (by simp; omega)
  have a2 := add_tx (a := p1 ++ [s]) (b := p2) (by simp; omega)
  have a3 := add_tx (a := p1 ++ [s]) (b := p3) (by simp; omega)
  have a4 := add_tx (a := p1) (b := p3) (by omega)
  have a5 := add_tx (a := p1) (b := p4) (by omega)
  have a6 := add_tx (a := a) (b := a) (by omega)
  have a7 := add_tx (a := p2) (b := p1) (by omega)
  have a8 : addF (.str (Str.ofString " ")) (tx a) = some (tx ([32] ++ a)) := by
    rw [sSp]
    exact add_tx (by simp; omega)
  have a9 : addF (tx a) (.str (Str.ofString " ")) = some (tx (a ++ [32])) := by
    rw [sSp]
    exact add_tx (by simp; omega)
  have good : ∀ b, b.length ≤ 200 → Low b → Good a (tx b) := fun b h1 h2 => .inl ⟨b, rfl, h1, h2⟩
  have hml : lenF [.lst more] = some (.int 16) := by rw [F_lenL, hm]; rfl
  have hd5 : modI (.int c) (.int 16) = some (.int (c % 16)) := by rw [F_modI, if_pos (by rfl)]
  obtain ⟨xm, hx1, hx2⟩ := pick (xs := more) (P := Good a) (m := c % 16) ⟨Int.emod_nonneg _ (by decide), by rw [hm]; exact Int.emod_lt_of_pos _ (by decide)⟩ hg
  have hd4 : modI (.int c) (.int 4) = some (.int (c % 4)) := by rw [F_modI, if_pos (by rfl)]
  obtain ⟨x4, hy1, hy2⟩ := pick (xs := [tx (a ++ a), tx (p2 ++ p1), tx ([32] ++ a), tx (a ++ [32])]) (P := Good a) (m := c % 4) ⟨Int.emod_nonneg _ (by decide), Int.emod_lt_of_pos _ (by decide)⟩ (fun d hd => by
    simp only [List.mem_cons, List.not_mem_nil, or_false] at hd
    rcases hd with rfl | rfl | rfl | rfl
    · exact good _ (by simp; omega) (hlo.append hlo)
    · exact good _ (by simp; omega) (b2.append b1)
    · exact good _ (by simp; omega) (l32.append hlo)
    · exact good _ (by simp; omega) (hlo.append l32))
  have q : ∀ m n : Int, eqF (.int m) (.int n) = some (.bl (decide (m = n))) := fun m n => by simp
  unfold m__law_spoilt_k23 b__law_spoilt_k23
  have hcases : f = 0 ∨ f = 1 ∨ f = 2 ∨ f = 3 ∨ f = 4 ∨ f = 5 := by
    have : f < 6 := hf2
    omega
  simp only [mkF3, Nat.reduceSub, List.reduceReplicate, List.replicate]
  rcases hcases with rfl | rfl | rfl | rfl | rfl | rfl
  · exact ⟨tx (p1 ++ [s] ++ p2), by simp [-F_eq, -F_modI, -F_divI, l1, hm1, hd1, hd1', hsg, hd2, hd2', q, tk, dr, a1, a2], good _ (by simp; omega) ((b1.append ls).append b2)⟩
  · exact ⟨tx (p1 ++ p3), by simp [-F_eq, -F_modI, -F_divI, l1, hm1, hd1, hd1', hsg, hd2, hd2', q, tk, dr1, a4], good _ (by simp; omega) (b1.append b3)⟩
  · exact ⟨tx (p1 ++ [s] ++ p3), by simp [-F_eq, -F_modI, -F_divI, l1, hm1, hd1, hd1', hsg, hd2, hd2', q, tk, dr1, a1, a3], good _ (by simp; omega) ((b1.append ls).append b3)⟩
  · exact ⟨tx (p1 ++ p4), by simp [-F_eq, -F_modI, -F_divI, l1, hm1, hd1, hd1', hsg, hd2, hd2', q, hd3, hd3', tk, drk, a5], good _ (by simp; omega) (b1.append b4)⟩
  · exact ⟨x4, by simp [-F_eq, -F_modI, -F_divI, l1, hm1, hd1, hd1', hsg, hd2, hd2', q, tk, dr, a6, a7, a8, a9, hd4] at hy1 ⊢; simp [hy1], hy2⟩
  · exact ⟨xm, by simp [-F_eq, -F_modI, -F_divI, -F_lenL, l1, hm1, hd1, hd1', hsg, hd2, hd2', q, hml, hd5, hx1], hx2⟩
end DL.K23
end
section
set_option Elab.async false
set_option linter.all false
set_option maxRecDepth 100000
set_option maxHeartbeats 800000
namespace DL.K23
open PySem DL DL.NA
open L2 (atI ixN)
theorem uni_nx {i : Nat} {g : Addr → AS} {a' : AS} (h : ∀ e, (g e).set i .no = a') : uni i (fun e => RS.nx (g e)) = .nx a' := uni_of fun e => congrArg RS.nx (h e)
theorem uni_nx5 (s0 s1 s2 s3 s4 : DL.Slot) : uni 5 (fun e => RS.nx [s0, s1, s2, s3, s4, .val (.ref e)]) = .nx [s0, s1, s2, s3, s4, .no] := uni_nx fun _ => rfl
theorem eqds_dI : ∀ xs ys : List (List Int), eqds (xs.map dI) (ys.map dI) = decide (xs = ys)
  | [], [] => rfl
  | [], _ :: _ => rfl
  | _ :: _, [] => rfl
  | x :: xs, y :: ys => by
    rw [List.map_cons, List.map_cons, eqds_cons, eqd_dI, eqds_dI xs ys]
    by_cases h : x = y
    · subst h; simp
    · simp [h]
theorem eqd_self (L : Int) (ws : List (List Int)) : eqd (dB L ws) (dB L ws) = true := by
  unfold dB
  rw [eqd_tup, eqds_cons, eqds_cons, eqd_tup, eqds_dI, eqd_int]
  simp
theorem eq_self (L : Int) (ws : List (List Int)) : eqF (dB L ws) (dB L ws) = some (.bl true) := by
  have h : lvl 60 (dB L ws) = true := lvl_dB 57 L ws
  rw [F_eq, h, eqd_self]
  rfl
theorem ne_self (L : Int) (ws : List (List Int)) : neF (dB L ws) (dB L ws) = some (.bl false) := by
  have h : lvl 60 (dB L ws) = true := lvl_dB 57 L ws
  rw [F_ne, h, eqd_self]
  rfl
theorem ne_tx {a : List Nat} (h : ∀ c ∈ a, c < 128) : neF (tx a) (tx a) = some (.bl false) := by
  have h1 : lvl 60 (tx a) = true := by
    unfold tx
    rw [lvl_str]
    exact str_ok fun c hc => by have := h c hc; omega
  have h2 : eqd (tx a) (tx a) = true := by
    unfold tx
    rw [eqd_str, SX.S_beq_eq]
    simp
  rw [F_ne, h1, h2]
  rfl
theorem dueD_dB {a : List Nat} {d : D} (h : dueD a = some d) : ∃ L ws, d = dB L ws := by
  unfold dueD at h
  obtain ⟨b, _, h2⟩ := Option.bind_eq_some_iff.mp h
  split at h2
  · cases h2; exact ⟨_, _, rfl⟩
  · cases h2
theorem read_no {x : D} (h : x = .non ∨ x = .int 5 ∨ ∃ xs, x = .lst xs) : m_read [x] = .exc 9 ∧ m__law_due [x] = .ok .non := by
  rcases h with rfl | rfl | ⟨xs, rfl⟩
  · exact ⟨by unfold m_read b_read; simp, by unfold m__law_due b__law_due; simp⟩
  · exact ⟨by unfold m_read b_read; simp, by unfold m__law_due b__law_due; simp⟩
  · exact ⟨by unfold m_read b_read; simp, by unfold m__law_due b__law_due; simp⟩
/-- of anything spoilt both tell the same book, or none -/
theorem both {a : List Nat} {x : D} (h : Good a x) : (∃ L ws, m_read [x] = .ok (dB L ws) ∧ m__law_due [x] = .ok (dB L ws)) ∨ (m_read [x] = .exc 9 ∧ m__law_due [x] = .ok .non) := by
  rcases h with ⟨b, rfl, h1, h2⟩ | h | h | h
  · have r := read_ok (a := b) (by omega)
    have d := due_ok (a := b) (by omega) (fun c hc => by have := h2 c hc; omega)
    cases e : dueD b with
    | none => rw [e] at r d; exact .inr ⟨r, d⟩
    | some y =>
      rw [e] at r d
      obtain ⟨L, ws, rfl⟩ := dueD_dB e
      exact .inl ⟨L, ws, r, d⟩
  · exact .inr (read_no (.inl h))
  · exact .inr (read_no (.inr (.inl h)))
  · exact .inr (read_no (.inr (.inr ⟨_, h⟩)))
def more (a : List Nat) : List D := [.str (Str.ofString "3"), .str (Str.ofString "4/0"), .str (Str.ofString "0/"), .str (Str.ofString "1/1"), .str (Str.ofString "2/////"), .str (Str.ofString "2//////"), .str (Str.ofString "3/0000000"), .str (Str.ofString ""), .non, .int 5, .lst [tx a],
  .str (Str.ofString "12/0"), .str (Str.ofString "2/0/\n"), .str (Str.ofString "/0"), .str (Str.ofString "3/"), .str (Str.ofString "03/0")]
theorem more_good (a : List Nat) : ∀ d ∈ more a, Good a d := by
  have g : ∀ z : Str, ((SX.S z.cps.toList = z) ∧ z.cps.toList.length ≤ 200 ∧ (z.cps.toList.all fun c => decide (c < 128)) = true) → Good a (.str z) := fun z ⟨h1, h2, h3⟩ => .inl ⟨z.cps.toList, by unfold tx; rw [h1], h2, fun c hc => of_decide_eq_true (List.all_eq_true.mp h3 c hc)⟩
  have g' : ∀ z : Str, (decide (z.cps.toList.length ≤ 200) && z.cps.toList.all fun c => decide (c < 128)) = true → Good a (.str z) := fun z h => by
    rw [Bool.and_eq_true] at h
    exact g z ⟨SX.S_tl z, of_decide_eq_true h.1, h.2⟩
  intro d hd
  simp only [more, List.mem_cons, List.not_mem_nil, or_false] at hd
  rcases hd with rfl | rfl | rfl | rfl | rfl | rfl | rfl | rfl | rfl | rfl | rfl | rfl | rfl | rfl | rfl | rfl <;> first
    | exact g' _ (by rfl)
    | exact .inr (.inl rfl)
    | exact .inr (.inr (.inl rfl))
    | exact .inr (.inr (.inr rfl))
theorem law_true (ns : List Int) (_ : ns.length ≤ 63) : m_law_k23 [.scr ns] = .ok (.bl true) := by
  obtain ⟨L, ws, e, h, _, _⟩ := any_ok ns (p := 2) (wh := 5) (most := 6) (by decide) (by decide) (by decide) (by decide)
  obtain ⟨b1, b2⟩ := mixed_ok ns (k := 0) (many := 10000000) (by decide) (by decide)
  have hp : powI (.int 10) (.int 7) = some (.int 10000000) := by rfl
  obtain ⟨t1, t2⟩ := text_len h
  have sh := shown_ok h
  have lt := ltext_ok h
  have rd0 : m_read [tx (textL L ws)] = .ok (dB L ws) := by
    have := read_ok (a := textL L ws) (by omega)
    rw [text_due h] at this
    exact this
  have n1 := ne_tx t2
  have n2 := ne_self L ws
  obtain ⟨x, hx, gx⟩ := spoilt_ok (a := textL L ws) t1 t2 (c := mixd ns 0 10000000) b2.1 (more := more (textL L ws)) rfl (more_good _)
  have bo := both gx
  have hk : ∀ s0 s1 s3 s4 s5, isiF "str" (rd 2) [s0, s1, Slot.val (tx (textL L ws)), s3, s4, s5] = .ok (.bl true) [s0, s1, Slot.val (tx (textL L ws)), s3, s4, s5] := fun s0 s1 s3 s4 s5 => by simp [tx]
  unfold more at hx
  unfold m_law_k23 b_law_k23
  simp at e
  generalize textL L ws = tl at *
  generalize dB L ws = bk at *
  simp only [mkF1, Nat.reduceSub, List.reduceReplicate, List.replicate]
  rcases bo with ⟨L2, ws2, r1, r2⟩ | ⟨r1, r2⟩
  · have q := eq_self L2 ws2
    simp [-ap_isiF, -F_eq, -F_ne, e, sh, lt, rd0, n1, n2, hk, hp, b1, hx, r1, r2, q]
  · have q : eqF .non .non = some (.bl true) := by rfl
    simp [-ap_isiF, -F_eq, -F_ne, e, sh, lt, rd0, n1, n2, hk, hp, b1, hx, r1, r2, q, uni_nx5]
end DL.K23
end
section
set_option Elab.async false
set_option linter.all false
set_option maxRecDepth 100000
set_option maxHeartbeats 4000000
open PySem PySem.W PyProof.Rows
set_option maxHeartbeats 0 in
theorem PySem.Challenge.cw_nearall_k23_texts_holds : PySem.Challenge.rw_nearall_k23_texts.Holds := by
  w_on; o_law; k_head; (case hw => w_witness2)
  k_fill
  refine L2.walk_of (l := PySem.Challenge.rw_nearall_k23_texts) (n := 63) (k := 7) (x := "_law_script") (CX := fun w => L2.CX (PySem.Challenge.rw_nearall_k23_texts).prog w) (sp := fun w => DL.K23.spLaw _) rfl (by decide) rfl ⟨rfl, by decide, by decide⟩ (fun w h Y => PySem.W.kIn_of Y) ?F (fun _ _ a ns hl _ hS => ⟨a, ns, rfl, hS, hl, fun _ => rfl⟩) (fun _ _ _ _ _ h => by obtain ⟨_, _, _, _, _, _, _, _, _, _, _, _, z⟩ := h; exact z)
  case F =>
    intro w mg fa h KX G hmg
    refine' DL.K23.all_mk DL.K23.law_true KX G hmg ?a0 ?l0 ?c0 ?k0 ?a1 ?l1 ?c1 ?k1 ?a2 ?l2 ?c2 ?k2 ?a3 ?l3 ?c3 ?k3 ?a4 ?l4 ?c4 ?k4 ?a5 ?l5 ?c5 ?k5 ?a6 ?l6 ?c6 ?k6 ?a7 ?l7 ?c7 ?k7 ?a8 ?l8 ?c8 ?k8 ?a9 ?l9 ?c9 ?k9 ?a10 ?l10 ?c10 ?k10 ?a11 ?l11 ?c11 ?k11 ?a12 ?l12 ?c12 ?k12 ?a13 ?l13 ?c13 ?k13 ?a14 ?l14 ?c14 ?k14 ?a15 ?l15 ?c15 ?k15 ?a16 ?l16 ?c16 ?k16 ?z_ValueError ?z_all ?z_bool ?z_int ?z_isinstance ?z_len ?z_range ?z_str ?z_tuple ?e_LENGTH ?e_WORDS ?ga_NoBook ?gq_NoBook ?gk_NoBook ?gs_NoBook ?gt_NoBook ?ga_NoText ?gq_NoText ?gk_NoText ?gs_NoText ?gt_NoText ?ga_NearError ?b1_0 ?b2_0 ?b3_0 ?b4_0 ?sb_1_0 ?sb_9_0 ?b1_1 ?b2_1 ?b3_1 ?b4_1 ?sb_1_1 ?sb_9_1 ?b1_9 ?b2_9 ?b3_9 ?b4_9 ?sb_1_9 ?sb_9_9 ?sb_1_100 ?sb_9_100 ?en_n ?en_t ?e1_NoBook ?e2_NoBook ?e3_NoBook ?e4_NoBook ?e5_NoBook ?e6_NoBook ?e1_NoText ?e2_NoText ?e3_NoText ?e4_NoText ?e5_NoText ?e6_NoText
    (case a0 => k_is); (case l0 => k_is); (case c0 => k_is); (case k0 => k_is); (case a1 => k_is); (case l1 => k_is); (case c1 => k_is); (case k1 => k_is); (case a2 => k_is); (case l2 => k_is); (case c2 => k_is); (case k2 => k_is); (case a3 => k_is); (case l3 => k_is); (case c3 => k_is); (case k3 => k_is); (case a4 => k_is); (case l4 => k_is); (case c4 => k_is); (case k4 => k_is); (case a5 => k_is); (case l5 => k_is); (case c5 => k_is); (case k5 => k_is); (case a6 => k_is); (case l6 => k_is); (case c6 => k_is); (case k6 => k_is); (case a7 => k_is); (case l7 => k_is); (case c7 => k_is); (case k7 => k_is); (case a8 => k_is); (case l8 => k_is); (case c8 => k_is); (case k8 => k_is); (case a9 => k_is); (case l9 => k_is); (case c9 => k_is); (case k9 => k_is); (case a10 => k_is); (case l10 => k_is); (case c10 => k_is); (case k10 => k_is); (case a11 => k_is); (case l11 => k_is); (case c11 => k_is); (case k11 => k_is); (case a12 => k_is); (case l12 => k_is); (case c12 => k_is); (case k12 => k_is); (case a13 => k_is); (case l13 => k_is); (case c13 => k_is); (case k13 => k_is); (case a14 => k_is); (case l14 => k_is); (case c14 => k_is); (case k14 => k_is); (case a15 => k_is); (case l15 => k_is); (case c15 => k_is); (case k15 => k_is); (case a16 => k_is); (case l16 => k_is); (case c16 => k_is); (case k16 => k_is); (case z_ValueError => k_is); (case z_all => k_is); (case z_bool => k_is); (case z_int => k_is); (case z_isinstance => k_is); (case z_len => k_is); (case z_range => k_is); (case z_str => k_is); (case z_tuple => k_is); (case e_LENGTH => k_is); (case e_WORDS => k_is); (case ga_NoBook => k_is); (case gq_NoBook => k_exc); (case gk_NoBook => k_is); (case gs_NoBook => k_is); (case gt_NoBook => k_is); (case ga_NoText => k_is); (case gq_NoText => k_exc); (case gk_NoText => k_is); (case gs_NoText => k_is); (case gt_NoText => k_is); (case ga_NearError => k_is); (case b1_0 => k_is); (case b2_0 => k_is); (case b3_0 => k_is); (case b4_0 => k_is); (case sb_1_0 => k_is); (case sb_9_0 => k_is); (case b1_1 => k_is); (case b2_1 => k_is); (case b3_1 => k_is); (case b4_1 => k_is); (case sb_1_1 => k_is); (case sb_9_1 => k_is); (case b1_9 => k_is); (case b2_9 => k_is); (case b3_9 => k_is); (case b4_9 => k_is); (case sb_1_9 => k_is); (case sb_9_9 => k_is); (case sb_1_100 => k_is); (case sb_9_100 => k_is); (case en_n => k_is); (case en_t => k_is); (case e1_NoBook => k_is); (case e2_NoBook => k_is); (case e3_NoBook => k_is); (case e4_NoBook => k_is); (case e5_NoBook => k_is); (case e6_NoBook => k_is); (case e1_NoText => k_is); (case e2_NoText => k_is); (case e3_NoText => k_is); (case e4_NoText => k_is); (case e5_NoText => k_is); (case e6_NoText => k_is)
end
